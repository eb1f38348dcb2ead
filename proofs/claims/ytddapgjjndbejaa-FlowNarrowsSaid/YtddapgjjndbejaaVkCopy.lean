/- The proof engine, part 16: copying, views, conversions. Generic over the program. -/
import Derived.Test.YtddapgjjndbejaaVkDraw2
import Derived.Lib.Slices
namespace Go.Vk
open Go

section
variable {P : Program} {ev : Operand → Value} {w : World} {ty : TypeId} {x y : Operand} {S T : TypeId} {a : Int}
theorem x_convert {s k : IntKind} {u : TypeDesc} (hx : ev x = .int s a) (hs : ∀ w, (underlying S).run P w = .ok u w) (hd : ∀ w, (underlying T).run P w = .ok (.int k) w) (hr : k.wrap a = a) : X P ev (.convert S T x) ty w (.int k a) w :=
  ⟨nofun, fun _ _ _ _ => by
    simp only [execOp, hx, convert, Sem.run_bind, hs, hd, Result.andThen_ok]
    cases u <;> simp [Conv.intToInt, hr, go_sem]⟩
theorem x_min {k : IntKind} {c : Int} {ts : Array TypeId} (hx : ev x = .int k a) (hy : ev y = .int k c) : X P ev (.call ⟨.builtin .min, #[x, y], ts⟩) ty w (.int k (min a c)) w :=
  ⟨nofun, fun _ _ _ _ => by
    have h : min a c = if c < a then c else a := by simp only [Int.min_def]; split <;> split <;> omega
    simp only [execOp, resolve, Sem.run_bind, Sem.run_pure, Result.andThen_ok, invoke, builtin, List.map_toArray, List.map_cons, List.map_nil, hx, hy, Builtin.min_, List.foldlM_cons, List.foldlM_nil]
    simp [Builtin.min2, h, go_sem]⟩
theorem u64_in {a : Int} (h : 0 ≤ a ∧ a < 18446744073709551616) : IntKind.u64.wrap a = a := IntWalk.u64_in a ⟨h.1, by omega⟩
theorem i64_in {a : Int} (h : -9223372036854775808 ≤ a ∧ a ≤ 9223372036854775807) : IntKind.i64.wrap a = a := IntWalk.i64_in _ h
end

theorem tail_self {α : Type} {E : Elt α} {v : Value} {l : List α} {w : World} (h : (vec E v l).ok w) : Tail E v v 0 := by
  rcases h with ⟨hv, _⟩ | ⟨b, cap, c, hv, h1, _⟩
  · exact .inl ⟨hv, hv, rfl⟩
  · exact .inr ⟨b, l.length, cap, hv, Nat.zero_le _, h1, by rw [hv]; simp⟩

section
variable {P : Program} {b : Frame} {cs : List Frame} {fin : Machine → Prop} {n : Nat} {all : Array Oper} {rest : List Oper} {k : List Item} {ρ : Env} {ds : List Deferred} {w : World} {X : Nat → Prop} {w0 : World} {L : List Rsc}
  {d : Nat} {d' : Option Nat} {ty : TypeId} {pos : String} {af : Array Edge} {g : Option (Nat × Bool)} {T T' : TypeId} {x y : Operand} {α : Type} {E : Elt α} {v vd vs : Value} {l xs : List α} {p : Nat}

theorem flatMap_drop (E : Elt α) : ∀ (l : List α) (q : Nat), (l.drop q).flatMap E.enc = (l.flatMap E.enc).drop (q * E.sz) := by
  intro l
  induction l with
  | nil => intro q; simp
  | cons a l ih =>
    intro q
    cases q with
    | zero => simp
    | succ q =>
      have h1 : (q + 1) * E.sz = E.sz + q * E.sz := by rw [Nat.add_mul]; omega
      have hd : (E.enc a).drop (E.sz + q * E.sz) = [] := List.drop_of_length_le (by rw [E.len]; omega)
      have h2 : E.sz + q * E.sz - E.sz = q * E.sz := by omega
      rw [List.drop_succ_cons, ih, h1, List.flatMap_cons, List.drop_append, hd, E.len, List.nil_append, h2]

/-- 'copy' into a slice of one's own whose elements have one cell each. -/
theorem x_copy {ev : Operand → Value} (S : Own X w0 w L) (j : Nat) (hj : L[j]? = some (vec E v l)) (ht : Tail E v vd p) (hx : ev x = vd) (hy : ev y = vs) (hr : Rd E w vs xs)
    (hu : P.underlying T = some (.slice E.T)) (hs : (P.info? E.T).map (·.size) = some 1) (hsz : E.sz = 1) :
    ∃ w', Vk.X P ev (.call ⟨.builtin .copy, #[x, y], #[T, T']⟩) ty w (.int .i64 (min xs.length (l.length - p) : Nat)) w' ∧
      Own X w0 w' (L.set j (vec E v (l.take p ++ (xs.take (min xs.length (l.length - p)) ++ l.drop (p + min xs.length (l.length - p)))))) ∧ Keep (vec E v l).fp w w' := by
  have hrun : ∀ (m : Nat) (w' : World), (Builtin.copy_ #[T, T'] ty #[vd, vs]).run P w = .ok (goInt m) w' → Vk.X P ev (.call ⟨.builtin .copy, #[x, y], #[T, T']⟩) ty w (.int .i64 m) w' := by
    intro m w' h
    refine ⟨nofun, fun _ _ _ _ => ?_⟩
    simp only [execOp, resolve, Sem.run_bind, Sem.run_pure, Result.andThen_ok, invoke, builtin, List.map_toArray, List.map_cons, List.map_nil, hx, hy, h]
    rfl
  obtain ⟨i, hi, hi1⟩ : ∃ i, P.info? E.T = some i ∧ i.size = 1 := by
    cases hq : P.info? E.T with
    | none => simp [hq] at hs
    | some i => exact ⟨i, rfl, by simpa [hq] using hs⟩
  obtain ⟨a, scap, rfl, hsc, hrow⟩ := hr
  have hflat : ∀ (m : Nat), m ≤ xs.length → ((xs.take m).flatMap E.enc).length = m := by
    intro m hm; rw [flatMap_enc_length, List.length_take, hsz]; omega
  have hzero : min xs.length (l.length - p) = 0 → (∃ b c, vd = .slice b (l.length - p) c) →
      (Builtin.copy_ #[T, T'] ty #[vd, .slice a xs.length scap]).run P w = .ok (goInt 0) w := by
    rintro h0 ⟨bb, cc, rfl⟩
    have h0' : Nat.min xs.length (l.length - p) = 0 := h0
    cases a with
    | none => cases bb <;> simp [Builtin.copy_, run_underlying hu, Builtin.lenOf, Builtin.firstCells, sizeOf, typeInfo, hi, storeCells, h0', go_sem]
    | some a => cases bb <;> simp [Builtin.copy_, run_underlying hu, Builtin.lenOf, Builtin.firstCells, sizeOf, typeInfo, hi, storeCells, h0', loadCells, go_sem]
  have hsame : min xs.length (l.length - p) = 0 → l.take p ++ (xs.take (min xs.length (l.length - p)) ++ l.drop (p + min xs.length (l.length - p))) = l := by
    intro h0; rw [h0]; simp
  rcases ht with ⟨hv, rfl, rfl⟩ | ⟨b1, len, cap1, hv, h1, h2, rfl⟩
  · rcases S.at j hj with ⟨_, rfl⟩ | ⟨b', cap, c, hv2, _⟩
    · have h0 : min xs.length (([] : List α).length - 0) = 0 := by simp
      refine ⟨w, hrun _ _ (by rw [h0]; exact hzero h0 ⟨none, 0, rfl⟩), ?_, Keep.refl _ _⟩
      rw [hsame h0]
      exact S.as j hj (S.at j hj) fun _ h => h
    · rw [hv] at hv2; cases hv2
  · rcases S.at j hj with ⟨hv2, _⟩ | ⟨b', cap, c, hv2, g1, g2, g3, g4, hb⟩
    · rw [hv] at hv2; cases hv2
    · have hv0 := hv2
      rw [hv] at hv2
      simp only [Value.slice.injEq, Option.some.injEq, Addr.mk.injEq, and_true] at hv2
      obtain ⟨rfl, rfl, rfl⟩ := hv2
      by_cases h0 : min xs.length (l.length - p) = 0
      · refine ⟨w, hrun _ _ (by rw [h0]; exact hzero h0 ⟨_, _, rfl⟩), ?_, Keep.refl _ _⟩
        rw [hsame h0]
        exact S.as j hj (S.at j hj) fun _ h => h
      · obtain ⟨q, hq⟩ : ∃ q, q = min xs.length (l.length - p) := ⟨_, rfl⟩
        rw [← hq] at h0 ⊢
        have hql : q ≤ xs.length := by omega
        have hqp : p + q ≤ l.length := by omega
        have hne : cap1 ≠ p := by omega
        have hc1 : c.length = cap1 := by rw [g3, hsz, Nat.mul_one]
        have h4 : c.take l.length = l.flatMap E.enc := by rw [← g4, hsz, Nat.mul_one]
        obtain ⟨x0, hx0⟩ : ∃ x0, xs[0]? = some x0 := ⟨_, List.getElem?_eq_getElem (by omega)⟩
        obtain ⟨sb, so, rfl, _⟩ := hrow 0 x0 hx0
        have hcs := run_copy_row (P := P) w T T' ty E.T b1 p (l.length - p) (cap1 - p) ⟨sb, so, none⟩ xs.length scap c.toArray E.T ((xs.take q).flatMap E.enc) hu hs hb (by rw [hflat q hql, hq])
          (fun jj u hjj => by
            have hlt : jj < q := by have := (List.getElem?_eq_some_iff.1 hjj).1; rw [hflat q hql] at this; exact this
            obtain ⟨xj, hxj⟩ : ∃ xj, xs[jj]? = some xj := ⟨_, List.getElem?_eq_getElem (by omega)⟩
            obtain ⟨b2, o2, hb2, hr2⟩ := hrow jj xj hxj
            simp only [Option.some.injEq, Addr.mk.injEq, and_true] at hb2
            obtain ⟨rfl, rfl⟩ := hb2
            have hlen1 : (E.enc xj).length = 1 := by rw [E.len, hsz]
            obtain ⟨z, hz⟩ := List.length_eq_one_iff.1 hlen1
            have h5 : (xs.take q)[jj]? = some xj := by rw [List.getElem?_take, if_pos hlt]; exact hxj
            have h6 := flatMap_enc_get E (xs.take q) jj xj 0 z h5 (by rw [hz]; rfl)
            rw [hsz, Nat.mul_one, Nat.add_zero, hjj] at h6
            have h6' : z = u := Option.some.inj h6.symm
            subst h6'
            have h7 := hr2 0 z (by rw [hz]; rfl)
            rw [hsz, Nat.mul_one, Nat.add_zero] at h7
            rw [addr_add]; exact h7)
          (by rw [hflat q hql, List.size_toArray]; omega) (fun u hu' => by obtain ⟨zz, _, hzz⟩ := List.mem_flatMap.1 hu'; exact E.one zz u hzz)
        rw [hflat q hql] at hcs
        have hlen : (l.take p ++ (xs.take q ++ l.drop (p + q))).length = l.length := by simp; omega
        refine ⟨w.setRow b1 (c.take p ++ (xs.take q).flatMap E.enc ++ c.drop (p + q)).toArray, hrun _ _ ?_, ?_, (Keep.setRow w _).mono fun bb _ e => ⟨l.length, cap1, by subst e; exact hv0⟩⟩
        · rw [if_neg hne, hsz, Nat.mul_one]
          exact hcs
        · refine S.turn j hj ((Keep.setRow w _).mono fun bb _ e => ⟨l.length, cap1, by subst e; exact hv0⟩) (fun _ _ h => h) ?_ (fun _ h => .inl h)
          refine .inr ⟨b1, cap1, _, by rw [hlen]; exact hv0, by rw [hlen]; exact g1, g2, ?_, ?_, setRow_heap w b1 _ _ E.T _ hb⟩
          · simp [hsz, hflat q hql]; omega
          · rw [hlen, hsz, Nat.mul_one, List.flatMap_append, List.flatMap_append, flatMap_take E l p, flatMap_drop E l (p + q), hsz, Nat.mul_one, Nat.mul_one, ← h4, List.take_take, Nat.min_eq_left h1]
            have hA : (c.take p ++ (xs.take q).flatMap E.enc).length = p + q := by rw [List.length_append, hflat q hql, List.length_take]; omega
            rw [List.take_append, List.take_of_length_le (by rw [hA]; exact hqp), hA, List.append_assoc, List.drop_take]

theorem l_copy (S : Own X w0 w L) (j : Nat) (hj : L[j]? = some (vec E v l)) (hg : gOk all n ρ g = true) (ht : Tail E v vd p) (hx : ev n ρ x = vd) (hy : ev n ρ y = vs) (hr : Rd E w vs xs)
    (hu : P.underlying T = some (.slice E.T)) (hs : (P.info? E.T).map (·.size) = some 1) (hsz : E.sz = 1)
    (h : ∀ w', Own X w0 w' (L.set j (vec E v (l.take p ++ (xs.take (min xs.length (l.length - p)) ++ l.drop (p + min xs.length (l.length - p)))))) → Keep (vec E v l).fp w w' →
      RunL P b cs fin n all rest k (upd ρ d (.int .i64 (min xs.length (l.length - p) : Nat))) ds w') :
    RunL P b cs fin n all (⟨some d, .call ⟨.builtin .copy, #[x, y], #[T, T']⟩, ty, pos, af, g⟩ :: rest) k ρ ds w := by
  obtain ⟨w', h1, h2, h3⟩ := x_copy (T' := T') (ty := ty) S j hj ht hx hy hr hu hs hsz
  exact l_x hg h1 (h w' h2 h3)
theorem s_copy {Φ : Value → World → Prop} (S : Own X w0 w L) (j : Nat) (hj : L[j]? = some (vec E v l)) (hg : gOk all n ρ g = true) (ht : Tail E v vd p) (hx : ev n ρ x = vd) (hy : ev n ρ y = vs) (hr : Rd E w vs xs)
    (hu : P.underlying T = some (.slice E.T)) (hs : (P.info? E.T).map (·.size) = some 1) (hsz : E.sz = 1)
    (h : ∀ w', Own X w0 w' (L.set j (vec E v (l.take p ++ (xs.take (min xs.length (l.length - p)) ++ l.drop (p + min xs.length (l.length - p)))))) → Keep (vec E v l).fp w w' →
      Φ (.int .i64 (min xs.length (l.length - p) : Nat)) w') :
    Sp P all n ρ ⟨d', .call ⟨.builtin .copy, #[x, y], #[T, T']⟩, ty, pos, af, g⟩ w Φ := by
  obtain ⟨w', h1, h2, h3⟩ := x_copy (T' := T') (ty := ty) S j hj ht hx hy hr hu hs hsz
  exact s_x hg h1 (h w' h2 h3)

/-- The end of a slice of one's own, the value alone. -/
theorem x_tailv {ev : Operand → Value} {z : Operand} {q : Int} (hok : (vec E v l).ok w) (hx : ev x = v) (hz : ev z = .int .i64 q) (hu : ∀ w, (underlying T).run P w = .ok (.slice E.T) w) (hs : ∀ w, (sizeOf E.T).run P w = .ok E.sz w) (hq : 0 ≤ q ∧ q ≤ l.length) :
    ∃ v', Tail E v v' q.toNat ∧ ∀ w1, Vk.X P ev (.slice T x (some z) none none) ty w1 v' w1 := by
  rcases hok with ⟨hv, rfl⟩ | ⟨b', cap, c, hv, h1, h2, h3, h4, hb⟩
  · have hx2 := hx.trans hv
    have hq0 : q = 0 := by simp at hq; omega
    subst hq0
    exact ⟨_, .inl ⟨hv, by simp, rfl⟩, fun w1 => x_cut (w := w1) hx2 hu hs (p := 0) (q := 0) (by simp [hz]) rfl (by simp) (Nat.le_refl _)⟩
  · have hx2 := hx.trans hv
    refine ⟨_, .inr ⟨b', l.length, cap, hv, by omega, h1, ?_⟩, fun w1 => x_cut (w := w1) hx2 hu hs (p := q) (q := l.length) (by simp [hz]) rfl (by omega) h1⟩
    split
    · rename_i e; simp [e]
    · simp [addr_add]
/-- The head of a slice, to be read. -/
theorem x_headv {ev : Operand → Value} {z : Operand} {q : Int} (hr : Rd E w v l) (hx : ev x = v) (hz : ev z = .int .i64 q) (hu : ∀ w, (underlying T).run P w = .ok (.slice E.T) w) (hs : ∀ w, (sizeOf E.T).run P w = .ok E.sz w) (hq : 0 ≤ q ∧ q ≤ l.length) :
    ∃ v', Rd E w v' (l.take q.toNat) ∧ ∀ w1, Vk.X P ev (.slice T x none (some z) none) ty w1 v' w1 := by
  obtain ⟨a, cap, rfl, hc, hrow⟩ := hr
  have hlen : (l.take q.toNat).length = q.toNat := by rw [List.length_take]; omega
  refine ⟨_, ?_, fun w1 => x_cut (w := w1) hx hu hs (p := 0) (q := q) rfl (by simp [hz]) (by omega) hc⟩
  refine ⟨_, _, by rw [hlen, Int.toNat_zero, Nat.sub_zero], by rw [hlen]; simp; omega, fun i e hi => ?_⟩
  rw [List.getElem?_take] at hi
  split at hi
  · obtain ⟨b', o', rfl, hr⟩ := hrow i e hi
    refine ⟨b', o', ?_, hr⟩
    split
    · rfl
    · simp [addr_add]
  · cases hi
end

section
variable {P : Program} {b : Frame} {cs : List Frame} {fin : Machine → Prop} {n : Nat} {k : List Item} {ρ : Env} {ds : List Deferred} {w : World} {ops : Array Oper} {m : Nat} {Y : Nat → Prop} {listed listed' : Array Bool}
  {d : Nat} {ty : TypeId} {pos : String} {af : Array Edge} {g : Option (Nat × Bool)} {v : Value} {T : TypeId} {x z : Operand} {α : Type} {E : Elt α} {l : List α} {q : Int}
theorem e_tail (i : Nat) (hok : drawOk ops m = true) (ho : ops[i]? = some ⟨some d, .slice T x (some z) none none, ty, pos, af, g⟩) (him : Nat.blt i m = true) (hr : rdy ops listed i = true)
    (hl : listed.setIfInBounds i true = listed') (hg : gOk ops n ρ g = true) (hv : (vec E v l).ok w) (hx : ev n ρ x = v) (hz : ev n ρ z = .int .i64 q)
    (hu : ∀ w, (underlying T).run P w = .ok (.slice E.T) w) (hs : ∀ w, (sizeOf E.T).run P w = .ok E.sz w) (hq : 0 ≤ q ∧ q ≤ l.length)
    (h : ∀ v', Tail E v v' q.toNat → RE P b cs fin n ops m (Keep Y) k ds listed' (upd ρ d v') w) : RE P b cs fin n ops m (Keep Y) k ds listed ρ w := by
  obtain ⟨v', h1, h2⟩ := x_tailv (P := P) (ty := ty) hv hx hz hu hs hq
  exact e_exact i _ hok ho him hr hl (ex_x hg fun w1 _ => h2 w1) (h v' h1)
theorem e_head (i : Nat) (hok : drawOk ops m = true) (ho : ops[i]? = some ⟨some d, .slice T x none (some z) none, ty, pos, af, g⟩) (him : Nat.blt i m = true) (hr : rdy ops listed i = true)
    (hl : listed.setIfInBounds i true = listed') (hg : gOk ops n ρ g = true) (hv : Rd E w v l) (hx : ev n ρ x = v) (hz : ev n ρ z = .int .i64 q)
    (hu : ∀ w, (underlying T).run P w = .ok (.slice E.T) w) (hs : ∀ w, (sizeOf E.T).run P w = .ok E.sz w) (hq : 0 ≤ q ∧ q ≤ l.length)
    (h : ∀ v', Rd E w v' (l.take q.toNat) → RE P b cs fin n ops m (Keep Y) k ds listed' (upd ρ d v') w) : RE P b cs fin n ops m (Keep Y) k ds listed ρ w := by
  obtain ⟨v', h1, h2⟩ := x_headv (P := P) (ty := ty) hv hx hz hu hs hq
  exact e_exact i _ hok ho him hr hl (ex_x hg fun w1 _ => h2 w1) (h v' h1)
end

/-- A list of c numbers whose first i are z already. -/
def rp (z : Int) (c i : Nat) : List Int := List.replicate i z ++ List.replicate (c - i) 0
theorem rp_len {z : Int} {c i : Nat} (h : i ≤ c) : (rp z c i).length = c := by simp [rp]; omega
theorem rp_full {z : Int} {c : Nat} : rp z c c = List.replicate c z := by simp [rp]
theorem rp_take {z : Int} {c i : Nat} : (rp z c i).take i = List.replicate i z := by
  rw [rp, List.take_left' (by simp)]
theorem rp_start {z : Int} {c : Nat} : (List.replicate c 0).take 0 ++ ([z].take (min [z].length ((List.replicate c (0:Int)).length - 0)) ++ (List.replicate c 0).drop (0 + min [z].length ((List.replicate c (0:Int)).length - 0))) = rp z c (min 1 c) := by
  cases c with
  | zero => simp [rp]
  | succ c =>
    have e : min 1 (c + 1) = 1 := by omega
    simp [rp, e]
theorem rp_copy {z : Int} {c i : Nat} (h : i ≤ c) : (rp z c i).take i ++ (((rp z c i).take i).take (min ((rp z c i).take i).length ((rp z c i).length - i)) ++ (rp z c i).drop (i + min ((rp z c i).take i).length ((rp z c i).length - i))) =
    rp z c (i + min ((rp z c i).take i).length ((rp z c i).length - i)) := by
  rw [rp_take, rp_len h, List.length_replicate, List.take_replicate]
  have hq : min i (c - i) ≤ c - i := by omega
  obtain ⟨q, hq'⟩ : ∃ q, q = min i (c - i) := ⟨_, rfl⟩
  rw [← hq'] at hq ⊢
  have e1 : min q i = q := by omega
  rw [e1, rp, rp, ← List.append_assoc, List.replicate_append_replicate]
  congr 1
  rw [List.drop_append, List.drop_of_length_le (by simp), List.nil_append, List.length_replicate, List.drop_replicate]
  congr 1
  omega

/-- The whole of an array as a slice. -/
theorem x_sliceall {P : Program} {ev : Operand → Value} {w : World} {T ty e : TypeId} {x : Operand} {b o n s : Nat} (hx : ev x = .pointer (some ⟨b, o, none⟩)) (hu : ∀ w, (underlying T).run P w = .ok (.array n e) w) (hs : ∀ w, (sizeOf e).run P w = .ok s w) :
    X P ev (.slice T x none none none) ty w (.slice (some ⟨b, o, none⟩) n n) w := by
  refine ⟨nofun, fun _ _ _ _ => ?_⟩
  have ha : (⟨b, o, none⟩ : Addr).add 0 = ⟨b, o, none⟩ := rfl
  simp only [execOp, Instr.sliceAt, Option.map_none, hx, Sem.run_bind, hu, Result.andThen_ok, Instr.sureAddr, Sem.run_pure, Instr.sliceBounds, hs, Nat.zero_mul, ha, Nat.sub_zero]
  split <;> rfl

theorem foldl_max_pos : ∀ (l : List Int) (a : Int), 0 < l.foldl max a ↔ 0 < a ∨ ∃ z ∈ l, 0 < z := by
  intro l
  induction l with
  | nil => intro a; simp
  | cons b l ih =>
    intro a
    rw [List.foldl_cons, ih]
    constructor
    · rintro (h | ⟨z, hz, h⟩)
      · by_cases ha : 0 < a
        · exact .inl ha
        · exact .inr ⟨b, List.mem_cons_self .., by omega⟩
      · exact .inr ⟨z, List.mem_cons_of_mem _ hz, h⟩
    · rintro (h | ⟨z, hz, h⟩)
      · exact .inl (by omega)
      · rcases List.mem_cons.1 hz with rfl | hz
        · exact .inl (by omega)
        · exact .inr ⟨z, hz, h⟩
theorem maxOf_pos {zs : List Int} (h : zs ≠ []) : 0 < Lib.maxOf zs ↔ ∃ z ∈ zs, 0 < z := by
  unfold Lib.maxOf
  rw [foldl_max_pos]
  cases zs with
  | nil => exact absurd rfl h
  | cons a l =>
    constructor
    · rintro (h | h)
      · exact ⟨a, List.mem_cons_self .., by simpa using h⟩
      · exact h
    · intro h; exact .inr h
end Go.Vk
