/- The proof engine, part 13: slices that are cut, and cleared. Generic over the program. -/
import Derived.Test.YtddapgjjndbejaaVkSorts
namespace Go.Vk
open Go

section
variable {P : Program} {b : Frame} {cs : List Frame} {fin : Machine → Prop} {n : Nat} {all : Array Oper} {rest : List Oper} {k : List Item} {ρ : Env} {ds : List Deferred} {w : World} {X : Nat → Prop} {w0 : World} {L : List Rsc}
  {d : Nat} {d' : Option Nat} {ty : TypeId} {pos : String} {af : Array Edge} {g : Option (Nat × Bool)} {T : TypeId} {x y : Operand} {α : Type} {E : Elt α} {v v' : Value} {l : List α}

/-- 's[lo:hi]', the value. -/
theorem x_cut {ev : Operand → Value} {lo hi : Option Operand} {p q : Int} {a : Option Addr} {len cap sz : Nat} {e : TypeId} (hx : ev x = .slice a len cap) (hu : ∀ w, (underlying T).run P w = .ok (.slice e) w) (hs : ∀ w, (sizeOf e).run P w = .ok sz w)
    (hlo : (lo.map ev).getD (.int .i64 0) = .int .i64 p) (hhi : (hi.map ev).getD (.int .i64 len) = .int .i64 q) (hb : 0 ≤ p ∧ p ≤ q ∧ q ≤ len) (hc : len ≤ cap) :
    Vk.X P ev (.slice T x lo hi none) ty w (.slice (if cap = p.toNat then a else a.map (·.add (p.toNat * sz))) (q.toNat - p.toNat) (cap - p.toNat)) w := by
  refine ⟨nofun, fun _ _ _ _ => ?_⟩
  have hsb : ∀ w, (Instr.sliceBounds true len cap (lo.map ev) (hi.map ev) none).run P w = .ok (p.toNat, q.toNat, cap) w := by
    intro w
    have hB : ∀ (z : Value) (m : Int) (y : Nat) (cd : BoundsCode) (w : World), z = .int .i64 m → 0 ≤ m ∧ m ≤ y → (Instr.sliceBound z y cd).run P w = .ok m.toNat w := by
      intro z m y cd w hz hm
      subst hz
      simp only [Instr.sliceBound, asIntOf, Sem.run_bind, Sem.run_pure, Result.andThen_ok]
      rw [if_pos hm]
      rfl
    unfold Instr.sliceBounds
    cases hi with
    | none =>
      have e2 : len = q.toNat := by simp at hhi; omega
      simp only [Option.map_none, Sem.run_bind, Sem.run_pure, Result.andThen_ok, Option.isSome_none, Bool.false_eq_true, if_false, e2]
      cases lo with
      | none => simp at hlo; subst hlo; rfl
      | some z =>
        simp only [Option.map_some, Option.getD_some] at hlo
        simp only [Option.map_some, Sem.run_bind, hB (ev z) p q.toNat .sliceB w hlo (by omega), Result.andThen_ok]
        rfl
    | some z =>
      simp only [Option.map_some, Option.getD_some] at hhi
      simp only [Option.map_some, Sem.run_bind, Sem.run_pure, Result.andThen_ok, Option.isSome_none, Bool.false_eq_true, if_false, if_true, hB (ev z) q cap .sliceAcap w hhi (by omega)]
      cases lo with
      | none => simp at hlo; subst hlo; rfl
      | some z =>
        simp only [Option.map_some, Option.getD_some] at hlo
        simp only [Option.map_some, Sem.run_bind, hB (ev z) p q.toNat .sliceB w hlo (by omega), Result.andThen_ok]
        rfl
  simp only [execOp, Instr.sliceAt, Option.map_none, hx, Sem.run_bind, hu, Result.andThen_ok, Instr.slice, hsb, hs, Sem.run_pure]

theorem flatMap_take (E : Elt α) : ∀ (l : List α) (q : Nat), (l.take q).flatMap E.enc = (l.flatMap E.enc).take (q * E.sz) := by
  intro l
  induction l with
  | nil => intro q; simp
  | cons a l ih =>
    intro q
    cases q with
    | zero => simp
    | succ q =>
      have h1 : (q + 1) * E.sz = E.sz + q * E.sz := by rw [Nat.add_mul]; omega
      have h2 : E.sz + q * E.sz - E.sz = q * E.sz := by omega
      rw [List.take_succ_cons, List.flatMap_cons, List.flatMap_cons, ih, h1, List.take_append, E.len, h2]
      congr 1
      exact (List.take_of_length_le (by rw [E.len]; omega)).symm

/-- A slice of one's own is cut to its head. -/
theorem l_prefix {z : Operand} {q : Int} (S : Own X w0 w L) (j : Nat) (hj : L[j]? = some (vec E v l)) (hg : gOk all n ρ g = true) (hx : ev n ρ x = v) (hz : ev n ρ z = .int .i64 q)
    (hu : ∀ w, (underlying T).run P w = .ok (.slice E.T) w) (hs : ∀ w, (sizeOf E.T).run P w = .ok E.sz w) (hq : 0 ≤ q ∧ q ≤ l.length)
    (h : ∀ v', Own X w0 w (L.set j (vec E v' (l.take q.toNat))) → RunL P b cs fin n all rest k (upd ρ d v') ds w) :
    RunL P b cs fin n all (⟨some d, .slice T x none (some z) none, ty, pos, af, g⟩ :: rest) k ρ ds w := by
  have hlt : (l.take q.toNat).length = q.toNat := by rw [List.length_take]; omega
  rcases S.at j hj with ⟨hv, rfl⟩ | ⟨b', cap, c, hv, h1, h2, h3, h4, hb⟩
  · have hx2 := hx.trans hv
    have hq0 : q = 0 := by simp at hq; omega
    subst hq0
    refine l_x hg (x_cut hx2 hu hs (p := 0) (q := 0) rfl (by simp [hz]) (by simp) (Nat.le_refl _)) (h _ ?_)
    simp only [Int.toNat_zero, if_true, Nat.sub_self, List.take_nil]
    have : vec E (.slice none 0 0) ([] : List α) = vec E v [] := by rw [hv]
    rw [this]
    exact S.as j hj (S.at j hj) fun _ h => h
  · have hx2 := hx.trans hv
    refine l_x hg (x_cut hx2 hu hs (p := 0) (q := q) rfl (by simp [hz]) (by omega) h1) (h _ ?_)
    have e : (if cap = (0:Int).toNat then some (⟨b', 0, none⟩ : Addr) else Option.map (fun x : Addr => x.add ((0:Int).toNat * E.sz)) (some (⟨b', 0, none⟩ : Addr))) = some ⟨b', 0, none⟩ := by
      split
      · rfl
      · simp [addr_add]
    rw [e]
    simp only [Int.toNat_zero, Nat.sub_zero]
    refine S.as j hj (.inr ⟨b', cap, c, by rw [hlt], by rw [hlt]; omega, h2, h3, ?_, hb⟩) fun bb ⟨n', cap', e'⟩ => ⟨l.length, cap, by cases e'; exact hv⟩
    rw [hlt, flatMap_take, ← h4, List.take_take, Nat.min_eq_left]
    exact Nat.mul_le_mul_right _ (by omega)

/-- v' is what of v stands from place p on. -/
def Tail (E : Elt α) (v v' : Value) (p : Nat) : Prop :=
  (v = .slice none 0 0 ∧ v' = .slice none 0 0 ∧ p = 0) ∨
  ∃ b len cap, v = .slice (some ⟨b, 0, none⟩) len cap ∧ p ≤ len ∧ len ≤ cap ∧ v' = .slice (some ⟨b, if cap = p then 0 else p * E.sz, none⟩) (len - p) (cap - p)

/-- A slice of one's own is cut to its end. -/
theorem l_tail {z : Operand} {p : Int} (S : Own X w0 w L) (j : Nat) (hj : L[j]? = some (vec E v l)) (hg : gOk all n ρ g = true) (hx : ev n ρ x = v) (hz : ev n ρ z = .int .i64 p)
    (hu : ∀ w, (underlying T).run P w = .ok (.slice E.T) w) (hs : ∀ w, (sizeOf E.T).run P w = .ok E.sz w) (hq : 0 ≤ p ∧ p ≤ l.length)
    (h : ∀ v', Tail E v v' p.toNat → RunL P b cs fin n all rest k (upd ρ d v') ds w) :
    RunL P b cs fin n all (⟨some d, .slice T x (some z) none none, ty, pos, af, g⟩ :: rest) k ρ ds w := by
  rcases S.at j hj with ⟨hv, rfl⟩ | ⟨b', cap, c, hv, h1, h2, h3, h4, hb⟩
  · have hx2 := hx.trans hv
    have hq0 : p = 0 := by simp at hq; omega
    subst hq0
    exact l_x hg (x_cut hx2 hu hs (p := 0) (q := 0) (by simp [hz]) rfl (by simp) (Nat.le_refl _)) (h _ (.inl ⟨hv, by simp, rfl⟩))
  · have hx2 := hx.trans hv
    refine l_x hg (x_cut hx2 hu hs (p := p) (q := l.length) (by simp [hz]) rfl (by omega) h1) (h _ (.inr ⟨b', l.length, cap, hv, by omega, h1, ?_⟩))
    split
    · rename_i e; simp [e]
    · simp [addr_add]

theorem tail_rd {p : Nat} (ht : Tail E v v' p) (h : (vec E v l).ok w) : Rd E w v' (l.drop p) := by
  obtain ⟨a, cap0, hv, hc, hrow⟩ := vec_rd h
  rcases ht with ⟨hv1, rfl, rfl⟩ | ⟨b', len, cap, hv1, h1, h2, rfl⟩
  · rw [hv1] at hv
    simp only [Value.slice.injEq] at hv
    obtain ⟨rfl, hl, _⟩ := hv
    have : l = [] := List.eq_nil_of_length_eq_zero hl.symm
    subst this
    exact ⟨none, 0, rfl, Nat.le_refl _, fun i c hi => by simp at hi⟩
  · rw [hv1] at hv
    simp only [Value.slice.injEq] at hv
    obtain ⟨rfl, rfl, rfl⟩ := hv
    refine ⟨_, _, by rw [List.length_drop], by rw [List.length_drop]; omega, fun i c hi => ?_⟩
    rw [List.getElem?_drop] at hi
    obtain ⟨b2, o2, hb2, hr⟩ := hrow _ c hi
    simp only [Option.some.injEq, Addr.mk.injEq, and_true] at hb2
    obtain ⟨rfl, rfl⟩ := hb2
    have hil := (List.getElem?_eq_some_iff.1 hi).1
    have hne : cap ≠ p := by omega
    refine ⟨b', p * E.sz, by simp [hne], ?_⟩
    have e : p * E.sz + i * E.sz = 0 + (p + i) * E.sz := by rw [Nat.add_mul]; omega
    rw [e]; exact hr

/-- The end of a slice of one's own is cleared. -/
theorem l_clear {a0 : α} {z z0 : Value} {p : Nat} (S : Own X w0 w L) (j : Nat) (hj : L[j]? = some (vec E v l)) (hg : gOk all n ρ g = true) (ht : Tail E v v' p) (hx : ev n ρ x = v')
    (hu : ∀ w, (underlying T).run P w = .ok (.slice E.T) w) (hz : ∀ w, (zeroValue E.T).run P w = .ok z w) (hzc : z.cells = [z0].toArray) (hsz : E.sz = 1) (h0 : E.enc a0 = [z0])
    (h : ∀ w', Own X w0 w' (L.set j (vec E v (l.take p ++ List.replicate (l.length - p) a0))) → Keep (vec E v l).fp w w' → RunL P b cs fin n all rest k (updO d' (.tuple #[]) ρ) ds w') :
    RunL P b cs fin n all (⟨d', .call ⟨.builtin .clear, #[x], #[T]⟩, ty, pos, af, g⟩ :: rest) k ρ ds w := by
  have hrun : ∀ w', (Builtin.clear_ #[T] ty #[v']).run P w = .ok (.tuple #[]) w' → (execOp (ev n ρ) ⟨d', .call ⟨.builtin .clear, #[x], #[T]⟩, ty, pos, af, g⟩).run P w = .ok (.value (.tuple #[])) w' := by
    intro w' hw
    simp only [execOp, resolve, Sem.run_bind, Sem.run_pure, Result.andThen_ok, invoke, builtin, List.map_toArray, List.map_cons, List.map_nil, hx, hw]
  have hnone : l.length - p = 0 → (∃ a c, v' = .slice a 0 c) → RunL P b cs fin n all (⟨d', .call ⟨.builtin .clear, #[x], #[T]⟩, ty, pos, af, g⟩ :: rest) k ρ ds w := by
    rintro hl ⟨a, c, hv'⟩
    refine l_value hg nofun (hrun w ?_) (h w ?_ (Keep.refl _ _))
    · rw [hv']
      simp only [Builtin.clear_]
      cases a <;> simp [hu, go_sem]
    · rw [hl]
      have e : l.take p = l := List.take_of_length_le (by omega)
      rw [e]
      simp only [List.replicate_zero, List.append_nil]
      exact S.as j hj (S.at j hj) fun _ h => h
  rcases ht with ⟨hv, rfl, rfl⟩ | ⟨b1, len, cap1, hv, h1, h2, rfl⟩
  · rcases S.at j hj with ⟨_, rfl⟩ | ⟨b', cap, c, hv2, _⟩
    · exact hnone rfl ⟨_, _, rfl⟩
    · rw [hv] at hv2; cases hv2
  · rcases S.at j hj with ⟨hv2, _⟩ | ⟨b', cap, c, hv2, g1, g2, g3, g4, hb⟩
    · rw [hv] at hv2; cases hv2
    · have hv0 := hv2
      rw [hv] at hv2
      simp only [Value.slice.injEq, Option.some.injEq, Addr.mk.injEq, and_true] at hv2
      obtain ⟨rfl, rfl, rfl⟩ := hv2
      by_cases hp : l.length - p = 0
      · exact hnone hp ⟨_, _, by rw [hp]⟩
      · have hne : cap1 ≠ p := by omega
        have hc1 : c.length = cap1 := by rw [g3, hsz, Nat.mul_one]
        have h4 : c.take l.length = l.flatMap E.enc := by rw [← g4, hsz, Nat.mul_one]
        have hone : z0.oneCell' = true := E.one a0 z0 (by rw [h0]; exact List.mem_singleton.2 rfl)
        have hzs : (Builtin.zeroCells z.cells (l.length - p)).toList = List.replicate (l.length - p) z0 := by
          rw [hzc]
          simp only [Builtin.zeroCells, List.size_toArray, List.length_singleton, Nat.mul_one, Nat.mod_one, Array.toList_map, Array.toList_range]
          apply List.ext_getElem
          · simp
          · intro i h1 h2; simp
        have hst := run_storeCells_at P b1 p E.T (List.replicate (l.length - p) z0) 0 c.toArray w hb (by simp; omega) (by intro u hu'; rw [List.eq_of_mem_replicate hu']; exact hone)
        simp only [Nat.add_zero, List.length_replicate] at hst
        have hfl : ∀ m, (List.replicate m a0).flatMap E.enc = List.replicate m z0 := by
          intro m
          induction m with
          | zero => rfl
          | succ m ih => rw [List.replicate_succ, List.flatMap_cons, ih, h0]; rfl
        have hlen : (l.take p ++ List.replicate (l.length - p) a0).length = l.length := by simp; omega
        refine l_value hg nofun (hrun _ ?_) (h (w.setRow b1 (c.take p ++ List.replicate (l.length - p) z0 ++ c.drop (p + (l.length - p))).toArray) ?_ ((Keep.setRow w _).mono fun bb _ e => ⟨l.length, cap1, by subst e; exact hv0⟩))
        · obtain ⟨m, hm⟩ : ∃ m, l.length - p = m + 1 := ⟨l.length - p - 1, by omega⟩
          have ha : (if cap1 = p then 0 else p * E.sz) = p := by rw [if_neg hne, hsz, Nat.mul_one]
          rw [ha]
          rw [← hzs, hm] at hst
          rw [hm]
          simp only [Builtin.clear_, List.getElem?_toArray]
          simp only [List.getElem?_cons_zero, Sem.run_bind, hu, Result.andThen_ok, hz, hst, Sem.run_pure]
          rw [← hm, hzs]
        · refine S.turn j hj ((Keep.setRow w _).mono fun bb _ e => ⟨l.length, cap1, by subst e; exact hv0⟩) (fun _ _ h => h) ?_ (fun _ h => .inl h)
          refine .inr ⟨b1, cap1, _, by rw [hlen]; exact hv0, by rw [hlen]; exact g1, g2, ?_, ?_, setRow_heap w b1 _ _ E.T _ hb⟩
          · simp [hsz]; omega
          · rw [hlen, hsz, Nat.mul_one, List.flatMap_append, hfl, flatMap_take, hsz, Nat.mul_one, ← h4, List.take_take, Nat.min_eq_left h1]
            exact List.take_left' (by simp; omega)
end

theorem vec_nil_fp {α : Type} {E : Elt α} {l : List α} (b : Nat) : ¬ (vec E (.slice none 0 0) l).fp b := fun ⟨_, _, h⟩ => by cases h
theorem New.nilvec {α : Type} {E : Elt α} (w w' : World) : New w w' (vec E (.slice none 0 0) ([] : List α)) := ⟨.inl ⟨rfl, rfl⟩, fun b hb => absurd hb (vec_nil_fp b)⟩
theorem Own.nilvec {α : Type} {E : Elt α} {X : Nat → Prop} {w0 w : World} {L : List Rsc} (S : Own X w0 w L) : Own X w0 w (L ++ [vec E (.slice none 0 0) ([] : List α)]) := S.add (Le.refl w) (New.nilvec w w)

/-- While elements are deleted: of the first j those without p stand at the head. -/
structure DelInv {α : Type} (p : α → Bool) (l l1 : List α) (i j : Nat) : Prop where
  len : l1.length = l.length
  le : i ≤ j
  lej : j ≤ l.length
  tk : l1.take i = (l.take j).filter fun x => !p x
  dr : l1.drop j = l.drop j

section
variable {α : Type} {p : α → Bool} {l l1 : List α} {i j : Nat} {a : α}
theorem DelInv.at (h : DelInv p l l1 i j) (hj : l[j]? = some a) : l1[j]? = some a := by
  have h1 : (l1.drop j)[0]? = (l.drop j)[0]? := by rw [h.dr]
  simpa [hj] using h1
theorem DelInv.start (hi : l[i]? = some a) (hp : p a = true) (h : ∀ x ∈ l.take i, p x = false) : DelInv p l l i (i + 1) := by
  obtain ⟨hl, rfl⟩ := List.getElem?_eq_some_iff.1 hi
  refine ⟨rfl, by omega, by omega, ?_, rfl⟩
  rw [List.take_succ_eq_append_getElem hl, List.filter_append]
  have e1 : (l.take i).filter (fun x => !p x) = l.take i := List.filter_eq_self.2 fun x hx => by simp [h x hx]
  simp [e1, hp]
theorem DelInv.drop (h : DelInv p l l1 i j) (hj : l[j]? = some a) (hp : p a = true) : DelInv p l l1 i (j + 1) := by
  obtain ⟨hl, rfl⟩ := List.getElem?_eq_some_iff.1 hj
  refine ⟨h.len, by have := h.le; omega, by omega, ?_, ?_⟩
  · rw [h.tk, List.take_succ_eq_append_getElem hl, List.filter_append]; simp [hp]
  · rw [← List.drop_drop, ← List.drop_drop, h.dr]
theorem DelInv.keep (h : DelInv p l l1 i j) (hj : l[j]? = some a) (hp : p a = false) : DelInv p l (l1.set i a) (i + 1) (j + 1) := by
  obtain ⟨hl, rfl⟩ := List.getElem?_eq_some_iff.1 hj
  have hle := h.le
  have hlen := h.len
  refine ⟨by simp [h.len], by omega, by omega, ?_, ?_⟩
  · rw [List.take_succ_eq_append_getElem hl, List.filter_append, ← h.tk]
    have hi : i < (l1.set i l[j]).length := by simp; omega
    rw [List.take_succ_eq_append_getElem hi, List.take_set_of_le (Nat.le_refl i)]
    simp [hp]
  · rw [List.drop_set_of_lt (by omega), ← List.drop_drop, ← List.drop_drop, h.dr]
theorem DelInv.done (h : DelInv p l l1 i l.length) : l1.take i = l.filter fun x => !p x := by rw [h.tk, List.take_length]
end

/-- Resources in another order, or fewer of them. -/
theorem Own.pick {X : Nat → Prop} {w0 w : World} {L L' : List Rsc} (S : Own X w0 w L) (is : List Nat) (hn : is.Nodup) (h : L'.map some = is.map (L[·]?)) : Own X w0 w L' := by
  refine S.perm is hn fun k r hr => ?_
  have h1 : (L'.map some)[k]? = some (some r) := by rw [List.getElem?_map, hr]; rfl
  rw [h, List.getElem?_map] at h1
  cases hi : is[k]? with
  | none => rw [hi] at h1; cases h1
  | some i => rw [hi] at h1; exact ⟨i, rfl, Option.some.inj h1⟩
/-- What a call made. -/
theorem Own.join {X : Nat → Prop} {u w w' : World} {L M : List Rsc} (S : Own X u w L) (h : Own nob w w' M) : Own X u w' (L ++ M) := by
  have S' := S.step h.keep
  have cut : ∀ {k : Nat} {r : Rsc}, (L ++ M)[k]? = some r → (k < L.length ∧ L[k]? = some r) ∨ (L.length ≤ k ∧ M[k - L.length]? = some r) := by
    intro k r hr
    rcases Nat.lt_or_ge k L.length with hk | hk
    · rw [List.getElem?_append_left hk] at hr; exact .inl ⟨hk, hr⟩
    · rw [List.getElem?_append_right hk] at hr; exact .inr ⟨hk, hr⟩
  refine ⟨S'.keep, fun k r hr => ?_, fun k r hr b hb => ?_, fun j k r s hr hs hne b hb hb' => ?_⟩
  · rcases cut hr with ⟨_, hr⟩ | ⟨_, hr⟩
    · exact S'.ok k r hr
    · exact h.ok _ r hr
  · rcases cut hr with ⟨_, hr⟩ | ⟨_, hr⟩
    · exact S'.bd k r hr b hb
    · have := h.bd _ r hr b hb
      exact ⟨this.1, .inl (Nat.le_trans S.keep.size (this.2.resolve_right id))⟩
  · rcases cut hr with ⟨e1, hr⟩ | ⟨e1, hr⟩ <;> rcases cut hs with ⟨e2, hs⟩ | ⟨e2, hs⟩
    · exact S'.dj j k r s hr hs hne b hb hb'
    · have h1 := (S.bd j r hr b hb).1
      have h2 := (h.bd _ s hs b hb').2.resolve_right id
      omega
    · have h1 := (S.bd k s hs b hb').1
      have h2 := (h.bd _ r hr b hb).2.resolve_right id
      omega
    · exact h.dj _ _ r s hr hs (by omega) b hb hb'
theorem Own.here {X : Nat → Prop} {u w : World} {L : List Rsc} (S : Own X u w L) (hX : ∀ b, X b → u.heap.size ≤ b) : Le u w := S.old (Le.refl u) hX
end Go.Vk
