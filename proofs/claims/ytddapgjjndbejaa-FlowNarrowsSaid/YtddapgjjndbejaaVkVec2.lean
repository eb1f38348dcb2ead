/- The proof engine, part 7: append; elements that are written; slices cut. Generic over the program. -/
import Derived.Test.YtddapgjjndbejaaVkVec
namespace Go.Vk
open Go

section
variable {P : Program} {b : Frame} {cs : List Frame} {fin : Machine → Prop} {n : Nat} {all : Array Oper} {rest : List Oper} {k : List Item} {ρ : Env} {ds : List Deferred} {w w' : World}
  {d : Nat} {d' : Option Nat} {ty : TypeId} {pos : String} {af : Array Edge} {g : Option (Nat × Bool)} {T : TypeId} {x y : Operand} {v : Value}
  {X : Nat → Prop} {w0 : World} {L : List Rsc} {α : Type} {E : Elt α}

/-! ### append -/

theorem rd_cells {xv : Value} {xs : List α} (h : Rd E w xv xs) (hne : xs ≠ []) : ∃ b o cap, xv = .slice (some ⟨b, o, none⟩) xs.length cap ∧ xs.length ≤ cap ∧ ∀ j u, (xs.flatMap E.enc)[j]? = some u → w.cell? ⟨b, o + j, none⟩ = some u := by
  obtain ⟨p, cap, rfl, hc, h⟩ := h
  cases xs with
  | nil => exact absurd rfl hne
  | cons a xs =>
    obtain ⟨b, o, rfl, _⟩ := h 0 a rfl
    refine ⟨b, o, cap, rfl, hc, fun j u hj => ?_⟩
    obtain ⟨c, h1, h2⟩ := flatMap_get_inv E _ j u hj
    obtain ⟨b', o', he, hr⟩ := h _ c h1
    simp at he
    obtain ⟨rfl, rfl⟩ := he
    have := hr _ _ h2
    rw [Nat.add_assoc, Nat.mul_comm, Nat.div_add_mod] at this
    exact this

theorem one_flatMap (xs : List α) : ∀ u ∈ xs.flatMap E.enc, u.oneCell' = true := by
  intro u hu
  obtain ⟨a, _, ha⟩ := List.mem_flatMap.1 hu
  exact E.one a u ha

/-- What append does to a slice of the call's own. -/
theorem run_append_vec {t : TypeId} {i : TypeInfo} {z : Value} {xv : Value} {l xs : List α} (S : Own X w0 w L) (j : Nat) (hj : L[j]? = some (vec E v l)) (hr : Rd E w xv xs)
    (ht : P.underlying t = some (.slice E.T)) (hi : P.info? E.T = some i) (hz : i.zero = some z) (hsz : i.size = E.sz) (hzc : z.cells.size = E.sz)
    (h63 : l.length + xs.length ≤ maxLen) (h47 : (l.length + xs.length) * i.bytes ≤ 140737488355328) :
    ∃ v' w', (Builtin.append_ #[t, t] ty #[v, xv]).run P w = .ok v' w' ∧ Own X w0 w' (L.set j (vec E v' (l ++ xs))) ∧ Keep (vec E v l).fp w w' ∧ (l ++ xs ≠ [] → ∃ b cap, v' = .slice (some ⟨b, 0, none⟩) (l.length + xs.length) cap) := by
  have hpos := E.pos
  have hok := S.at j hj
  by_cases hxs : xs = []
  · subst hxs
    obtain ⟨p, xcap, rfl, _, _⟩ := hr
    refine ⟨v, w, ?_, ?_, Keep.refl _ _, ?_⟩
    · have hu := run_underlying ht
      have hs : ∀ w, (sizeOf E.T).run P w = .ok i.size w := fun w => by simp [sizeOf, typeInfo, hi, go_sem]
      rcases hok with ⟨rfl, rfl⟩ | ⟨b', cap, c, rfl, h1, h2, h3, h4, hb⟩
      · cases p <;> simp [Builtin.append_, hu, hs, Builtin.lenOf, Builtin.firstCells, loadCells, loadCellsFrom, go_sem]
      · cases p <;> simp [Builtin.append_, hu, hs, Builtin.lenOf, Builtin.firstCells, loadCells, loadCellsFrom, storeCells, h1, go_sem]
    · rw [List.append_nil]
      exact S.as j hj hok (fun _ h => h)
    · intro hne
      rcases hok with ⟨rfl, rfl⟩ | ⟨b', cap, c, rfl, h1, h2, h3, h4, hb⟩
      · simp at hne
      · exact ⟨b', cap, by simp⟩
  · obtain ⟨xb, xo, xcap, rfl, hxc, hcells⟩ := rd_cells hr hxs
    have hx0 : 0 < xs.length := List.length_pos_iff.2 hxs
    have hnl : (xs.flatMap E.enc).length = xs.length * i.size := by rw [hsz, flatMap_enc_length]
    have hnews : ∀ q u, (xs.flatMap E.enc)[q]? = some u → w.cell? ((⟨xb, xo, none⟩ : Addr).add q) = some u := fun q u hq => by rw [addr_add]; exact hcells q u hq
    have h63' : l.length + xs.length ≤ 9223372036854775807 := by simp only [maxLen] at h63; omega
    have fresh : ∀ (cap' : Nat) (A : Array Value) (tail : List Value), A = ((l ++ xs).flatMap E.enc ++ tail).toArray → l.length + xs.length ≤ cap' → cap' ≤ maxLen → tail.length = (cap' - (l.length + xs.length)) * E.sz →
        Own X w0 (w.drew.alloc (.cells A E.T)) (L.set j (vec E (.slice (some ⟨w.heap.size, 0, none⟩) (l.length + xs.length) cap') (l ++ xs))) ∧ Keep (vec E v l).fp w (w.drew.alloc (.cells A E.T)) := by
      intro cap' A tail hA hc hcm htl
      subst hA
      have hle : Le w (w.drew.alloc (.cells ((l ++ xs).flatMap E.enc ++ tail).toArray E.T)) := (Le.drew w).trans (Le.alloc_cells _ _ _)
      refine ⟨S.turn (Y := nob) j hj hle (fun _ _ h => h.elim) (.inr ⟨w.heap.size, cap', (l ++ xs).flatMap E.enc ++ tail, by rw [List.length_append], by rw [List.length_append]; exact hc, hcm, ?_, ?_, Blk.new w.drew _ E.T⟩) (fun bb hb => ?_), hle.of_le⟩
      · rw [List.length_append, flatMap_enc_length, List.length_append, htl, ← Nat.add_mul]
        congr 1; omega
      · rw [← flatMap_enc_length E (l ++ xs), List.take_left]
      · obtain ⟨n', c', he⟩ := hb
        simp only [Value.slice.injEq, Option.some.injEq, Addr.mk.injEq] at he
        right; rw [← he.1.1]; simp
    rcases hok with ⟨rfl, rfl⟩ | ⟨b', cap, c, rfl, h1, h2, h3, h4, hb⟩
    · have hrun := run_append_nil (P := P) w t ty E.T i z ht hi hz ⟨xb, xo, none⟩ xs.length xcap (xs.flatMap E.enc) hnl hnews hx0 (by simp only [List.length_nil] at h63'; omega) (by simp only [List.length_nil, Nat.zero_add] at h47; omega)
      have e0 : ([] : List α).length + xs.length = xs.length := by simp
      rw [e0] at fresh h63
      have hf := fresh (grownCap w xs.length 0 E.T) ((xs.flatMap E.enc).toArray ++ Builtin.zeroCells z.cells (grownCap w xs.length 0 E.T - xs.length)) (Builtin.zeroCells z.cells (grownCap w xs.length 0 E.T - xs.length)).toList (by apply Array.ext'; simp) (grownCap_ge w xs.length 0 E.T)
        (grownCap_le_maxLen w xs.length 0 E.T h63) (by rw [Array.length_toList, size_zeroCells, hzc])
      exact ⟨_, _, hrun, hf.1, hf.2, fun _ => ⟨_, _, by rw [e0]⟩⟩
    · have hb' : w.heap[b']? = some (.cells c.toArray E.T (0, 0)) := hb
      by_cases hroom : l.length + xs.length ≤ cap
      · have hfit : l.length * i.size + (xs.flatMap E.enc).length ≤ c.toArray.size := by
          rw [hnl, hsz, ← Nat.add_mul, List.size_toArray, h3]; exact Nat.mul_le_mul_right _ hroom
        have hrun := run_append_room (P := P) w t ty E.T i ht hi b' l.length cap c.toArray hb' ⟨xb, xo, none⟩ xs.length xcap (xs.flatMap E.enc) hnl hnews (one_flatMap xs) hroom hfit
        simp only [hsz, List.size_toArray] at hrun hfit
        have hK : Keep (vec E (.slice (some ⟨b', 0, none⟩) l.length cap) l).fp w (w.setRow b' (c.take (l.length * E.sz) ++ xs.flatMap E.enc ++ c.drop (l.length * E.sz + (xs.flatMap E.enc).length)).toArray) :=
          (Keep.setRow w _).mono fun bb _ e => ⟨l.length, cap, by subst e; rfl⟩
        refine ⟨_, _, hrun, S.turn j hj hK (fun _ _ h => h) (.inr ⟨b', cap, c.take (l.length * E.sz) ++ xs.flatMap E.enc ++ c.drop (l.length * E.sz + (xs.flatMap E.enc).length), by simp, by simpa using hroom, h2, ?_, ?_, setRow_heap w b' _ _ E.T _ hb⟩) (fun bb hbb => .inl ?_), hK, fun _ => ⟨_, _, rfl⟩⟩
        · have := splice_length (c := c) (vs := xs.flatMap E.enc) (o := l.length * E.sz) hfit
          rw [splice] at this
          rw [this, h3]
        · rw [h4, List.length_append, ← List.flatMap_append, ← List.length_append, ← flatMap_enc_length E (l ++ xs), List.take_left]
        · obtain ⟨n', c', he⟩ := hbb
          simp at he
          exact ⟨_, _, by rw [he.1]⟩
      · have holds : ∀ q u, (l.flatMap E.enc)[q]? = some u → w.cell? ((⟨b', 0, none⟩ : Addr).add q) = some u := by
          intro q u hq
          rw [addr_add, Nat.zero_add]
          refine hb.cell ?_
          rw [← h4, List.getElem?_take] at hq
          split at hq
          · exact hq
          · cases hq
        have hrun := run_append_grow (P := P) w t ty E.T i z ht hi hz ⟨b', 0, none⟩ l.length cap (l.flatMap E.enc) (by rw [hsz, flatMap_enc_length]) holds ⟨xb, xo, none⟩ xs.length xcap (xs.flatMap E.enc) hnl hnews (by omega) (by omega)
          (growslice_fits (by omega) h47)
        have hf := fresh (grownCap w (l.length + xs.length) cap E.T) ((l.flatMap E.enc).toArray ++ (xs.flatMap E.enc).toArray ++ Builtin.zeroCells z.cells (grownCap w (l.length + xs.length) cap E.T - (l.length + xs.length))) (Builtin.zeroCells z.cells (grownCap w (l.length + xs.length) cap E.T - (l.length + xs.length))).toList (by apply Array.ext'; simp [List.flatMap_append]) (grownCap_ge w _ cap E.T)
          (grownCap_le_maxLen w _ cap E.T h63) (by rw [Array.length_toList, size_zeroCells, hzc])
        exact ⟨_, _, hrun, hf.1, hf.2, fun _ => ⟨_, _, rfl⟩⟩

theorem l_append (E : Elt α) {i : TypeInfo} {z : Value} {xv : Value} {l xs : List α} (S : Own X w0 w L) (j : Nat) (hj : L[j]? = some (vec E v l)) (hg : gOk all n ρ g = true) (hx : ev n ρ x = v) (hy : ev n ρ y = xv) (hr : Rd E w xv xs)
    (ht : P.underlying T = some (.slice E.T)) (hi : P.info? E.T = some i) (hz : i.zero = some z) (hsz : i.size = E.sz) (hzc : z.cells.size = E.sz)
    (h63 : l.length + xs.length ≤ maxLen) (h47 : (l.length + xs.length) * i.bytes ≤ 140737488355328)
    (h : ∀ v' w', Own X w0 w' (L.set j (vec E v' (l ++ xs))) → Keep (vec E v l).fp w w' → (l ++ xs ≠ [] → ∃ b cap, v' = .slice (some ⟨b, 0, none⟩) (l.length + xs.length) cap) → RunL P b cs fin n all rest k (upd ρ d v') ds w') :
    RunL P b cs fin n all (⟨some d, .call ⟨.builtin .append, #[x, y], #[T, T]⟩, ty, pos, af, g⟩ :: rest) k ρ ds w := by
  obtain ⟨v', w', hrun, h1, h2, h3⟩ := run_append_vec (P := P) (ty := ty) S j hj hr ht hi hz hsz hzc h63 h47
  refine l_x hg ⟨nofun, fun _ _ _ _ => ?_⟩ (h v' w' h1 h2 h3)
  simp only [execOp, resolve, Sem.run_bind, Sem.run_pure, Result.andThen_ok, invoke, builtin, List.map_toArray, List.map_cons, List.map_nil, hx, hy, hrun]

/-! ### elements that are written -/

/-- A store into an element (f: from which of its cells on) of a slice of the call's own. -/
theorem l_storev {b' o f : Nat} {i : Nat} {l : List α} {a a' : α} {vs : List Value} (S : Own X w0 w L) (j : Nat) (hj : L[j]? = some (vec E v l)) (hg : gOk all n ρ g = true) (hat : At E v i ⟨b', o, none⟩)
    (hx : ev n ρ x = .pointer (some ⟨b', o + f, none⟩)) (hy : (ev n ρ y).cells = vs.toArray) (hs : ∀ w, (sizeOf T).run P w = .ok vs.length w) (h1 : ∀ u ∈ vs, u.oneCell' = true) (ha : l[i]? = some a) (hf : f + vs.length ≤ E.sz)
    (he : splice (E.enc a) f vs = E.enc a') (h : ∀ w', Own X w0 w' (L.set j (vec E v (l.set i a'))) → Keep (vec E v l).fp w w' → RunL P b cs fin n all rest k (updO d' undef ρ) ds w') :
    RunL P b cs fin n all (⟨d', .store T x y, ty, pos, af, g⟩ :: rest) k ρ ds w := by
  obtain ⟨bb, oo, len, cap0, hv, hadr⟩ := hat
  have hok := S.at j hj
  rcases hok with ⟨rfl, rfl⟩ | ⟨b2, cap, c, hv2, g1, g2, g3, g4, hb⟩
  · cases hv
  · rw [hv2] at hv
    simp only [Value.slice.injEq, Option.some.injEq, Addr.mk.injEq, and_true] at hv
    obtain ⟨⟨rfl, rfl⟩, rfl, rfl⟩ := hv
    simp only [Addr.mk.injEq, and_true, Nat.zero_add] at hadr
    obtain ⟨rfl, rfl⟩ := hadr
    have hil : i < l.length := (List.getElem?_eq_some_iff.1 ha).1
    have hbound : i * E.sz + f + vs.length ≤ l.length * E.sz := by
      have : (i + 1) * E.sz ≤ l.length * E.sz := Nat.mul_le_mul_right _ hil
      rw [Nat.add_mul] at this; omega
    have hcl : l.length * E.sz ≤ c.length := by rw [g3]; exact Nat.mul_le_mul_right _ g1
    have hK : Keep (vec E v l).fp w (w.setRow b' (splice c (i * E.sz + f) vs).toArray) := (Keep.setRow w _).mono fun bb _ e => ⟨l.length, cap, by subst e; exact hv2⟩
    refine l_skip hg nofun (w' := w.setRow b' (splice c (i * E.sz + f) vs).toArray) ?_ (h _ (S.turn j hj hK (fun _ _ h => h) (.inr ⟨b', cap, splice c (i * E.sz + f) vs, by simpa using hv2, by simpa using g1, g2, ?_, ?_, setRow_heap w b' _ _ E.T _ hb⟩) (fun _ h => .inl h)) hK)
    · have hr := run_storeCells_at P b' (i * E.sz + f) E.T vs 0 c.toArray w hb (by simp; omega) h1
      simp only [execOp, hx, Instr.storeAt, Instr.sureAddr, Sem.run_bind, Sem.run_pure, Result.andThen_ok, storeVar, hs]
      rw [hy]
      simp only [List.size_toArray, ne_eq, not_true_eq_false, if_false]
      rw [hr]
      simp only [Result.andThen_ok, Nat.add_zero]
      rfl
    · rw [splice_length (by omega), g3]
    · rw [List.length_set, take_splice hbound hcl, g4, flatMap_splice E l i f a a' vs ha hf he]

/-! ### slices cut -/

/-- 's[lo:hi]' -/
theorem x_slice {ev : Operand → Value} {l : List α} {lo hi : Option Operand} {p q : Int} {xv : Value} (hr : Rd E w xv l) (hx : ev x = xv) (hu : ∀ w, (underlying T).run P w = .ok (.slice E.T) w) (hs : ∀ w, (sizeOf E.T).run P w = .ok E.sz w)
    (hlo : (lo.map ev).getD (.int .i64 0) = .int .i64 p) (hhi : (hi.map ev).getD (.int .i64 l.length) = .int .i64 q) (hb : 0 ≤ p ∧ p ≤ q ∧ q ≤ l.length) :
    ∃ v', Vk.X P ev (.slice T x lo hi none) ty w v' w ∧ Rd E w v' ((l.drop p.toNat).take (q.toNat - p.toNat)) := by
  obtain ⟨a, cap, rfl, hc, hrow⟩ := hr
  have hlen : ((l.drop p.toNat).take (q.toNat - p.toNat)).length = q.toNat - p.toNat := by simp; omega
  refine ⟨.slice (if cap = p.toNat then a else a.map (·.add (p.toNat * E.sz))) (q.toNat - p.toNat) (cap - p.toNat), ⟨nofun, fun _ _ _ _ => ?_⟩, ?_⟩
  · have hsb : ∀ w, (Instr.sliceBounds true l.length cap (lo.map ev) (hi.map ev) none).run P w = .ok (p.toNat, q.toNat, cap) w := by
      intro w
      have hB : ∀ (z : Value) (m : Int) (y : Nat) (cd : BoundsCode) (w : World), z = .int .i64 m → 0 ≤ m ∧ m ≤ y → (Instr.sliceBound z y cd).run P w = .ok m.toNat w := by
        intro z m y cd w hz hm
        subst hz
        simp only [Instr.sliceBound, asIntOf, Sem.run_bind, Sem.run_pure, Result.andThen_ok]
        rw [if_pos hm]
        rfl
      unfold Instr.sliceBounds
      cases hi with
      | none =>
        have e2 : l.length = q.toNat := by simp at hhi; omega
        simp only [Option.map_none, Sem.run_bind, Sem.run_pure, Result.andThen_ok, Option.isSome_none, Bool.false_eq_true, if_false, e2]
        cases lo with
        | none => simp at hlo; subst hlo; rfl
        | some z =>
          simp only [Option.map_some, Option.getD_some] at hlo
          simp only [Option.map_some, Sem.run_bind, hB (ev z) p q.toNat .sliceB w hlo (by omega), Result.andThen_ok]
          rfl
      | some z =>
        simp only [Option.map_some, Option.getD_some] at hhi
        simp only [Option.map_some, Sem.run_bind, Sem.run_pure, Result.andThen_ok, Option.isSome_none, Bool.false_eq_true, if_false, if_true, hB (ev z) q cap .sliceAcap w hhi (by omega)]
        cases lo with
        | none => simp at hlo; subst hlo; rfl
        | some z =>
          simp only [Option.map_some, Option.getD_some] at hlo
          simp only [Option.map_some, Sem.run_bind, hB (ev z) p q.toNat .sliceB w hlo (by omega), Result.andThen_ok]
          rfl
    simp only [execOp, Instr.sliceAt, Option.map_none, hx, Sem.run_bind, hu, Result.andThen_ok, Instr.slice, hsb, hs, Sem.run_pure]
  · refine ⟨_, _, by rw [hlen], by rw [hlen]; omega, fun i c hi' => ?_⟩
    rw [List.getElem?_take] at hi'
    split at hi'
    · rename_i hlt
      rw [List.getElem?_drop] at hi'
      obtain ⟨b', o', rfl, hr⟩ := hrow _ c hi'
      have hil := (List.getElem?_eq_some_iff.1 hi').1
      have hne : cap ≠ p.toNat := by omega
      refine ⟨b', o' + p.toNat * E.sz, by simp [hne, addr_add], ?_⟩
      have e : o' + p.toNat * E.sz + i * E.sz = o' + (p.toNat + i) * E.sz := by rw [Nat.add_mul]; omega
      rw [e]; exact hr
    · cases hi'

end
end Go.Vk
