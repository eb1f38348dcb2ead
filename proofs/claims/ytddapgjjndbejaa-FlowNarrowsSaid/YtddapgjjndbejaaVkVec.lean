/- The proof engine, part 6: slices of the call's own: made, filled, appended to, cut. Generic over the program. -/
import Derived.Test.YtddapgjjndbejaaVkOps2
namespace Go.Vk
open Go

section lists
variable {α : Type} (E : Elt α)

theorem flatMap_get_inv : ∀ (l : List α) (j : Nat) (u : Value), (l.flatMap E.enc)[j]? = some u → ∃ a, l[j / E.sz]? = some a ∧ (E.enc a)[j % E.sz]? = some u := by
  intro l
  induction l with
  | nil => intro j u h; simp at h
  | cons a l ih =>
    intro j u h
    rw [List.flatMap_cons] at h
    by_cases hj : j < E.sz
    · rw [List.getElem?_append_left (by rw [E.len]; exact hj)] at h
      exact ⟨a, by rw [Nat.div_eq_of_lt hj]; rfl, by rw [Nat.mod_eq_of_lt hj]; exact h⟩
    · rw [List.getElem?_append_right (by rw [E.len]; omega), E.len] at h
      obtain ⟨c, h1, h2⟩ := ih _ _ h
      have hp := E.pos
      have e1 : j / E.sz = (j - E.sz) / E.sz + 1 := by
        conv => lhs; rw [show j = (j - E.sz) + E.sz by omega]
        exact Nat.add_div_right _ hp
      have e2 : j % E.sz = (j - E.sz) % E.sz := by
        conv => lhs; rw [show j = (j - E.sz) + E.sz by omega]
        exact Nat.add_mod_right _ _
      exact ⟨c, by rw [e1]; exact h1, by rw [e2]; exact h2⟩

theorem splice_append_left {c c' vs : List Value} {o : Nat} (h : o + vs.length ≤ c.length) : splice (c ++ c') o vs = splice c o vs ++ c' := by
  simp only [splice]
  rw [List.take_append_of_le_length (by omega), List.drop_append_of_le_length (by omega)]
  simp
theorem splice_append_right {c c' vs : List Value} {o : Nat} : splice (c ++ c') (c.length + o) vs = c ++ splice c' o vs := by
  simp only [splice]
  rw [List.take_length_add_append, Nat.add_assoc, List.drop_length_add_append]
  simp

theorem flatMap_splice : ∀ (l : List α) (i f : Nat) (a a' : α) (vs : List Value), l[i]? = some a → f + vs.length ≤ E.sz → splice (E.enc a) f vs = E.enc a' →
    splice (l.flatMap E.enc) (i * E.sz + f) vs = (l.set i a').flatMap E.enc := by
  intro l
  induction l with
  | nil => intro i f a a' vs h; simp at h
  | cons c l ih =>
    intro i f a a' vs h hf he
    rw [List.flatMap_cons]
    cases i with
    | zero =>
      simp at h; subst h
      rw [Nat.zero_mul, Nat.zero_add, splice_append_left (by rw [E.len]; exact hf), he]
      simp
    | succ i =>
      have e : (i + 1) * E.sz + f = (E.enc c).length + (i * E.sz + f) := by rw [E.len, Nat.add_mul]; omega
      rw [e, splice_append_right, ih i f a a' vs (by simpa using h) hf he]
      simp

theorem take_splice {c vs : List Value} {o N : Nat} (h : o + vs.length ≤ N) (hN : N ≤ c.length) : (splice c o vs).take N = splice (c.take N) o vs := by
  have e : c = c.take N ++ c.drop N := (List.take_append_drop N c).symm
  have hl : (c.take N).length = N := by simp; omega
  conv => lhs; rw [e]
  rw [splice_append_left (by rw [hl]; exact h), List.take_append_of_le_length (by rw [splice_length (by rw [hl]; exact h), hl]; exact Nat.le_refl _)]
  rw [List.take_of_length_le]
  rw [splice_length (by rw [hl]; exact h), hl]
  exact Nat.le_refl _

theorem replicate_flatten_length (z : List Value) (n : Nat) : (List.replicate n z).flatten.length = n * z.length := by simp

theorem flatMap_replicate (a : α) (n : Nat) : (List.replicate n a).flatMap E.enc = (List.replicate n (E.enc a)).flatten := by
  induction n with
  | zero => simp
  | succ n ih => simp [List.replicate_succ, ih]

theorem range_zero (z : List Value) : ∀ c : Nat, ((List.range (c * z.length)).map fun i => z.toArray[i % z.length]!) = (List.replicate c z).flatten := by
  intro c
  induction c with
  | zero => simp
  | succ c ih =>
    rw [Nat.add_mul, Nat.one_mul, List.range_add, List.map_append, ih, List.replicate_succ', List.flatten_append]
    congr 1
    simp only [List.flatten_cons, List.flatten_nil, List.append_nil, List.map_map]
    apply List.ext_getElem?
    intro j
    by_cases hj : j < z.length
    · simp [hj, Nat.mod_eq_of_lt hj, Nat.add_mod]
    · simp [hj]

end lists

section
variable {P : Program} {b : Frame} {cs : List Frame} {fin : Machine → Prop} {n : Nat} {all : Array Oper} {rest : List Oper} {k : List Item} {ρ : Env} {ds : List Deferred} {w w' : World}
  {d : Nat} {d' : Option Nat} {ty : TypeId} {pos : String} {af : Array Edge} {g : Option (Nat × Bool)} {T : TypeId} {x y : Operand} {v : Value}
  {X : Nat → Prop} {w0 : World} {L : List Rsc} {α : Type} {E : Elt α}

/-- A slice that is the whole of a new block. -/
theorem vec_new {c : List Value} {l : List α} {cap : Nat} (hl : l.length ≤ cap) (hm : cap ≤ maxLen) (hc : c.length = cap * E.sz) (ht : c.take (l.length * E.sz) = l.flatMap E.enc) :
    New w (w.alloc (.cells c.toArray E.T (0, 0))) (vec E (.slice (some ⟨w.heap.size, 0, none⟩) l.length cap) l) :=
  ⟨.inr ⟨w.heap.size, cap, c, rfl, hl, hm, hc, ht, Blk.new w c E.T⟩, fun b hb => by
    obtain ⟨n, cap', h⟩ := hb
    simp at h
    rw [← h.1]
    simp⟩

/-! ### []T{..} -/

def PartsOk (ev : Operand → Value) (E : Elt α) : Nat → List (Nat × Operand) → List α → Prop
  | _, [], [] => True
  | i, (j, x) :: ps, a :: as => j = i ∧ (ev x).cells = (E.enc a).toArray ∧ PartsOk ev E (i + 1) ps as
  | _, _, _ => False

theorem fill_parts {ev : Operand → Value} : ∀ (parts : List (Nat × Operand)) (as : List α) (i : Nat) (pre post : List Value), PartsOk ev E i parts as → pre.length = i * E.sz → post.length = as.length * E.sz →
    Instr.fill (fun i => some (i * E.sz, E.sz)) (pre ++ post).toArray (parts.map fun p => (p.1, ev p.2)) = some (pre ++ as.flatMap E.enc).toArray := by
  intro parts
  induction parts with
  | nil =>
    intro as i pre post h h1 h2
    cases as with
    | nil => simp at h2; subst h2; simp [Instr.fill]
    | cons a as => exact h.elim
  | cons p parts ih =>
    intro as i pre post h h1 h2
    obtain ⟨j, x⟩ := p
    cases as with
    | nil => exact h.elim
    | cons a as =>
      obtain ⟨rfl, hv, h⟩ := h
      simp only [List.length_cons, Nat.add_mul, Nat.one_mul] at h2
      refine fill_cons rfl hv (E.len a) (by simp [h1, h2]) ?_
      have e1 : splice (pre ++ post) (j * E.sz) (E.enc a) = (pre ++ E.enc a) ++ post.drop E.sz := by
        rw [← h1]
        have := splice_append_right (c := pre) (c' := post) (vs := E.enc a) (o := 0)
        rw [Nat.add_zero] at this
        rw [this, splice, E.len]
        simp
      rw [e1, ih as (j + 1) (pre ++ E.enc a) (post.drop E.sz) h (by simp [h1, E.len, Nat.add_mul]) (by simp; omega)]
      simp

theorem l_buildSlice (E : Elt α) {len : Nat} {parts : List (Nat × Operand)} (as : List α) {z : Value} (S : Own X w0 w L) (hg : gOk all n ρ g = true) (hu : ∀ w, (underlying T).run P w = .ok (.slice E.T) w)
    (hs : ∀ w, (sizeOf E.T).run P w = .ok E.sz w) (hz : ∀ w, (zeroValue E.T).run P w = .ok z w) (hl : as.length = len) (hp : PartsOk (ev n ρ) E 0 parts as) (hsm : len * E.sz ≤ 16777216)
    (h : ∀ v w', Own X w0 w' (L ++ [vec E v as]) → Le w w' → RunL P b cs fin n all rest k (upd ρ d v) ds w') :
    RunL P b cs fin n all (⟨some d, .buildSlice T len parts.toArray, ty, pos, af, g⟩ :: rest) k ρ ds w := by
  have hpos := E.pos
  have hlen : len ≤ maxLen := by
    have : len ≤ len * E.sz := Nat.le_mul_of_pos_right _ hpos
    simp only [maxLen]; omega
  subst hl
  refine l_x hg (v := .slice (some ⟨w.heap.size, 0, none⟩) as.length as.length) (w' := w.alloc (.cells (as.flatMap E.enc).toArray E.T (0, 0))) ⟨nofun, fun _ _ _ _ => ?_⟩
    (h _ _ (S.add (Le.alloc_cells _ _ _) (vec_new (Nat.le_refl _) hlen (flatMap_enc_length E as) (by rw [List.take_of_length_le]; rw [flatMap_enc_length]; exact Nat.le_refl _))) (Le.alloc_cells _ _ _))
  simp only [execOp, Instr.buildSlice, Sem.run_bind, hu, hs, Result.andThen_ok]
  rw [if_neg (by simpa using hsm)]
  have hfill : ∀ zz : Array Value, Instr.fill (fun i => some (i * E.sz, E.sz)) ((Array.range (as.length * E.sz)).map (zz[· % zz.size]!)) (parts.map fun p => (p.1, ev n ρ p.2)) = some (as.flatMap E.enc).toArray := by
    intro zz
    have := fill_parts (E := E) (ev := ev n ρ) parts as 0 [] ((Array.range (as.length * E.sz)).map (zz[· % zz.size]!)).toList hp (by simp) (by simp)
    simpa only [List.nil_append, Array.toArray_toList] using this
  simp only [List.map_toArray]
  by_cases h0 : as.length * E.sz = 0
  · rw [if_pos h0]
    simp only [Sem.run_bind, Sem.run_pure, Result.andThen_ok, hfill]
    rfl
  · rw [if_neg h0]
    simp only [Sem.run_bind, hz, Sem.run_pure, Result.andThen_ok, hfill]
    rfl

/-! ### make -/

theorem l_make (E : Elt α) (a0 : α) {len cap : Nat} {ti : TypeInfo} {z : Value} (S : Own X w0 w L) (hg : gOk all n ρ g = true) (hu : ∀ w, (underlying T).run P w = .ok (.slice E.T) w)
    (hs : ∀ w, (sizeOf E.T).run P w = .ok E.sz w) (hti : ∀ w, (typeInfo E.T).run P w = .ok ti w) (hz : ∀ w, (zeroValue E.T).run P w = .ok z w) (hzc : z.cells = E.zero.toArray) (h0 : E.enc a0 = E.zero)
    (hx : ev n ρ x = .int .i64 len) (hy : ev n ρ y = .int .i64 cap) (hlc : len ≤ cap) (hm : cap ≤ maxLen) (hb : cap * ti.bytes ≤ 140737488355328)
    (h : ∀ v w', (∃ b, v = .slice (some ⟨b, 0, none⟩) len cap) → Own X w0 w' (L ++ [vec E v (List.replicate len a0)]) → Le w w' → RunL P b cs fin n all rest k (upd ρ d v) ds w') :
    RunL P b cs fin n all (⟨some d, .makeSlice T x y, ty, pos, af, g⟩ :: rest) k ρ ds w := by
  have hpos := E.pos
  have hm' : cap ≤ 9223372036854775807 := by simp only [maxLen] at hm; omega
  have hvn := vec_new (w := w) (E := E) (c := (List.replicate cap E.zero).flatten) (l := List.replicate len a0) (cap := cap) (by simpa using hlc) hm (by simp [E.zlen]) (by
    rw [List.length_replicate, flatMap_replicate, h0]
    obtain ⟨e, rfl⟩ : ∃ e, cap = len + e := ⟨cap - len, by omega⟩
    rw [← List.replicate_append_replicate, List.flatten_append, List.take_append_of_le_length (by simp [E.zlen]), List.take_of_length_le (by simp [E.zlen])])
  rw [List.length_replicate] at hvn
  refine l_x hg (v := .slice (some ⟨w.heap.size, 0, none⟩) len cap) (w' := w.alloc (.cells (List.replicate cap E.zero).flatten.toArray E.T (0, 0))) ⟨nofun, fun _ _ _ _ => ?_⟩
    (h _ _ ⟨_, rfl⟩ (S.add (Le.alloc_cells _ _ _) hvn) (Le.alloc_cells _ _ _))
  have hw1 : IntKind.i64.wrap (len : Int) = len := IntWalk.i64_in _ (by omega)
  have hw2 : IntKind.i64.wrap (cap : Int) = cap := IntWalk.i64_in _ (by omega)
  have eb : ∀ m : Nat, (ti.bytes : Int) * (m : Int) = ((m * ti.bytes : Nat) : Int) := fun m => by rw [Int.natCast_mul, Int.mul_comm]
  have hlen : len * ti.bytes ≤ 140737488355328 := Nat.le_trans (Nat.mul_le_mul_right _ hlc) hb
  have hroom : ∀ w, (askRoom (cap * ti.bytes)).run P w = .ok () w := by
    intro w
    unfold askRoom roomBytes
    rw [if_neg (by omega)]
    rfl
  have hcells : ∀ zz : Array Value, (cap * E.sz = 0 ∨ zz = E.zero.toArray) → (Array.range (cap * E.sz)).map (fun i => zz[i % zz.size]!) = (List.replicate cap E.zero).flatten.toArray := by
    intro zz hz0
    by_cases hc : cap * E.sz = 0
    · have : cap = 0 := by
        rcases Nat.mul_eq_zero.1 hc with h | h
        · exact h
        · omega
      subst this
      simp
    · have hzz := hz0.resolve_left hc
      have := range_zero E.zero cap
      rw [← this, E.zlen, hzz]
      apply Array.ext'
      simp [E.zlen]
  have htl : ∀ m : Nat, m * ti.bytes ≤ 140737488355328 → (decide ((m : Int) < 0) || decide ((ti.bytes : Int) * (m : Int) > 2 ^ 48)) = false := by
    intro m hm
    rw [eb]
    have h1 : ¬ ((m : Int) < 0) := by omega
    have h2 : ¬ (((m * ti.bytes : Nat) : Int) > 2 ^ 48) := by
      rw [show (2 : Int) ^ 48 = 281474976710656 from rfl]; omega
    simp only [h1, h2, decide_false, Bool.or_false]
  simp only [execOp, Instr.makeSlice, Sem.run_bind, hu, Result.andThen_ok, hx, hy, asInt, asIntOf, Sem.run_pure, hti, hw1, hw2, htl cap hb, htl len hlen]
  have h3 : ¬ ((len : Int) < 0) := by omega
  have h4 : ¬ ((len : Int) > (cap : Int)) := by omega
  simp only [h3, h4, decide_false, Bool.or_false, Bool.false_eq_true, if_false, Int.toNat_natCast]
  by_cases h0 : cap * E.sz = 0
  · simp only [Sem.run_bind, hroom, Result.andThen_ok, hs]
    rw [if_pos h0]
    simp only [Sem.run_bind, Sem.run_pure, Result.andThen_ok, hcells _ (.inl h0)]
    rfl
  · simp only [Sem.run_bind, hroom, Result.andThen_ok, hs]
    rw [if_neg h0]
    simp only [Sem.run_bind, hz, hzc, Sem.run_pure, Result.andThen_ok, hcells _ (.inr rfl)]
    rfl


end
end Go.Vk
