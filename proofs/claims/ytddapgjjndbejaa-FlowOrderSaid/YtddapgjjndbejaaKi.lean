/- Texts joined for a claim: VkFlowLaws5, VkLate, VkLate2, VkFlowTurn. -/
import Derived.Test.YtddapgjjndbejaaKh
import Derived.Test.YtddapgjjndbejaaKb
/- Nets, as plain mathematics, part 13: lists of records that grow one by one. No program in sight. -/
namespace Go.Vk.Flow
open Go

theorem lst_zero {L : List Int} {n : Int} (h : n = 0) : lst (L ++ [n]) = lst L :=
  lst_eq (lst_sorted L) fun x => by rw [mem_lst]; simp; omega
theorem lst_old {L : List Int} {n : Int} (h : n ∈ lst L) : lst (L ++ [n]) = lst L := by
  have h1 := (mem_lst.1 h)
  refine lst_eq (lst_sorted L) fun x => ?_
  rw [mem_lst]
  constructor
  · rintro ⟨a, b⟩; exact ⟨by simp [a], b⟩
  · rintro ⟨a, b⟩
    rcases List.mem_append.1 a with a | a
    · exact ⟨a, b⟩
    · simp at a; subst a; exact h1
theorem lst_new {L : List Int} {n : Int} {k : Nat} (hn : 0 < n) (h1 : ∀ x ∈ (lst L).drop k, n < x) (h2 : ∀ x ∈ (lst L).take k, x < n) : lst (L ++ [n]) = (lst L).take k ++ [n] ++ (lst L).drop k := by
  have hs := lst_sorted L
  have hs' : ((lst L).take k ++ (lst L).drop k).Pairwise (· < ·) := by rw [List.take_append_drop]; exact hs
  obtain ⟨p1, p2, p3⟩ := List.pairwise_append.1 hs'
  refine lst_eq (List.pairwise_append.2 ⟨List.pairwise_append.2 ⟨p1, by simp, fun x hx y hy => ?_⟩, p2, fun x hx y hy => ?_⟩) fun x => ?_
  · simp at hy; subst hy; exact h2 x hx
  · rcases List.mem_append.1 hx with hx | hx
    · exact p3 x hx y hy
    · simp at hx; subst hx; exact h1 y hy
  · have hm : x ∈ lst L ↔ x ∈ (lst L).take k ∨ x ∈ (lst L).drop k := by
      rw [← List.mem_append, List.take_append_drop]
    rw [mem_lst] at hm
    simp only [List.mem_append, List.mem_singleton]
    constructor
    · rintro ((h | h) | h)
      · exact ⟨.inl (hm.2 (.inl h)).1, (hm.2 (.inl h)).2⟩
      · subst h; exact ⟨.inr rfl, by omega⟩
      · exact ⟨.inl (hm.2 (.inr h)).1, (hm.2 (.inr h)).2⟩
    · rintro ⟨h | h, h0⟩
      · rcases hm.1 ⟨h, h0⟩ with h | h
        · exact .inl (.inl h)
        · exact .inr h
      · exact .inl (.inr h)
theorem lst_newl {l L : List Int} {n : Int} {k : Nat} (hl : l = lst L) (hn : 0 < n) (h1 : ∀ x ∈ l.drop k, n < x) (h2 : ∀ x ∈ l.take k, x < n) : lst (L ++ [n]) = l.take k ++ [n] ++ l.drop k := by
  subst hl; exact lst_new hn h1 h2
theorem drop_gt {l : List Int} {i : Nat} {x n : Int} (h : ∀ y ∈ l.drop i, n < y) (hx : l[i - 1]? = some x) (h0 : 0 < i) (hn : n < x) : ∀ y ∈ l.drop (i - 1), n < y := by
  obtain ⟨hlt, e⟩ := List.getElem?_eq_some_iff.1 hx
  rw [List.drop_eq_getElem_cons hlt, e, show i - 1 + 1 = i by omega]
  intro y hy
  rcases List.mem_cons.1 hy with h' | h'
  · subst h'; exact hn
  · exact h y h'
theorem take_lt {l : List Int} (hs : l.Pairwise (· < ·)) {i : Nat} {x n : Int} (hx : l[i - 1]? = some x) (h0 : 0 < i) (hn : x < n) : ∀ y ∈ l.take i, y < n := by
  obtain ⟨hlt, e⟩ := List.getElem?_eq_some_iff.1 hx
  intro y hy
  obtain ⟨j, hj, rfl⟩ := List.mem_take_iff_getElem.1 hy
  rcases Nat.lt_or_ge j (i - 1) with h | h
  · have := List.pairwise_iff_getElem.1 hs j (i - 1) (by omega) hlt h
    omega
  · have : j = i - 1 := by omega
    subst this; omega
theorem lst_nil : lst [] = [] := lst_eq (by simp) (by simp)
theorem recs_one_hi {a : Arc} : recs [(a, true)] = [a.hiBy] := rfl
theorem recs_one_lo {a : Arc} (h : 0 < a.lo) : recs [(a, false)] = [a.loBy] := by simp [recs, rec1, h]
theorem recs_one_no {a : Arc} (h : ¬ 0 < a.lo) : recs [(a, false)] = [] := by simp [recs, rec1, h]
theorem recs_app (s t : List (Arc × Bool)) : recs (s ++ t) = recs s ++ recs t := by simp [recs]
theorem orecs_app (s t : List (Arc × Bool)) : orecs (s ++ t) = orecs s ++ orecs t := by simp [orecs, recs]
section
variable {ns : List Int} {arcs : List Arc} {i : Nat} {a : Arc}
theorem oc_lo (ha : arcs[i]? = some a) (hs : decide (a.src ∈ ns) = true) (hd : decide (a.dst ∈ ns) = false) (h : 0 < a.lo) : lst (orecs (cutl ns (arcs.take (i + 1)))) = lst (orecs (cutl ns (arcs.take i)) ++ [a.loBy]) := by
  rw [cutl_take ha, cut1, hs, hd, if_pos (by decide), orecs_snoc]; simp [rec1, h]
theorem oc_lo0 (ha : arcs[i]? = some a) (hs : decide (a.src ∈ ns) = true) (hd : decide (a.dst ∈ ns) = false) (h : ¬ 0 < a.lo) : lst (orecs (cutl ns (arcs.take (i + 1)))) = lst (orecs (cutl ns (arcs.take i))) := by
  rw [cutl_take ha, cut1, hs, hd, if_pos (by decide), orecs_snoc]; simp [rec1, h]
theorem oc_hi (ha : arcs[i]? = some a) (hs : decide (a.src ∈ ns) = false) (hd : decide (a.dst ∈ ns) = true) : lst (orecs (cutl ns (arcs.take (i + 1)))) = lst (orecs (cutl ns (arcs.take i)) ++ [a.hiBy]) := by
  rw [cutl_take ha, cut1, hs, hd, if_pos (by decide), orecs_snoc]; rfl
theorem oc_no (ha : arcs[i]? = some a) {b c : Bool} (hs : decide (a.src ∈ ns) = b) (hd : decide (a.dst ∈ ns) = c) (e : b = c) : lst (orecs (cutl ns (arcs.take (i + 1)))) = lst (orecs (cutl ns (arcs.take i))) := by
  rw [cutl_take ha, cut1, hs, hd, e, if_neg (by simp), List.append_nil]
end
end Go.Vk.Flow
namespace Go.Vk.Flow
open Go
section
variable {N : Int} {arcs : List Arc} {w x p ns : List Int} {A : Int} {k k' : Bool} {s s' e e' : Int}
theorem bool_same {P : Prop} (h : k = true ↔ P) (h' : k' = true ↔ P) : k' = k := by
  cases k <;> cases k' <;> simp_all
theorem KeptR.same (h : KeptR N arcs x k e) (h' : KeptR N arcs x k' e') : k = k' ∧ e = e' := ⟨bool_same h'.2 h.2, h.1.trans h'.1.symm⟩
theorem SumR.same (h : SumR N arcs w x s e) (h' : SumR N arcs w x s' e') : s = s' ∧ e = e' := by
  obtain ⟨h1, h2⟩ := h; obtain ⟨h3, h4⟩ := h'
  have he : e' = e := h3.trans h1.symm
  subst he
  exact ⟨h2.trans h4.symm, rfl⟩
theorem BoundR.same (h : BoundR N arcs w p s e) (h' : BoundR N arcs w p s' e') : s = s' ∧ e = e' := by
  obtain ⟨h1, h2⟩ := h; obtain ⟨h3, h4⟩ := h'
  have he : e' = e := h3.trans h1.symm
  subst he
  exact ⟨h2.trans h4.symm, rfl⟩
theorem BestR.same (h : BestR N arcs w x p k e) (h' : BestR N arcs w x p k' e') : k = k' ∧ e = e' := by
  obtain ⟨h1, h2⟩ := h; obtain ⟨h3, h4⟩ := h'
  have he : e' = e := h3.trans h1.symm
  subst he
  exact ⟨bool_same h4 h2, rfl⟩
theorem orec_if_len (b : Bool) : (if askd N arcs b = 0 then orec arcs A ns else []).length ≤ 8000 := by
  split
  · next h => exact orec_len (askd_zero.1 h).1
  · exact Nat.zero_le _
theorem recs_if_len (b : Bool) : (if askd N arcs b = 0 then lst (recs (told p arcs w)) else []).length ≤ 4000 := by
  split
  · next h => have h1 := lst_len (recs (told p arcs w)); have h2 := recs_len (told p arcs w); have h3 := told_len (p := p) arcs w; have h4 := (askd_zero.1 h).1.len; omega
  · exact Nat.zero_le _
end
end Go.Vk.Flow

/- The proof engine, part 21: what was met late. Generic over the program. -/
namespace Go.Vk
open Go
section
variable {P : Program} {b : Frame} {cs : List Frame} {fin : Machine → Prop} {n : Nat} {k : List Item} {ρ : Env} {ds : List Deferred} {w : World} {all : Array Oper} {rest : List Oper}
  {d : Nat} {ty : TypeId} {pos : String} {af : Array Edge} {g : Option (Nat × Bool)} {v : Value} {T : TypeId} {x z : Operand} {α : Type} {E : Elt α} {l : List α} {q : Int}
/-- The head of a slice, to be read. -/
theorem l_head (hr : Rd E w v l) (hg : gOk all n ρ g = true) (hx : ev n ρ x = v) (hz : ev n ρ z = .int .i64 q)
    (hu : ∀ w, (underlying T).run P w = .ok (.slice E.T) w) (hs : ∀ w, (sizeOf E.T).run P w = .ok E.sz w) (hq : 0 ≤ q ∧ q ≤ l.length)
    (h : ∀ v', Rd E w v' (l.take q.toNat) → RunL P b cs fin n all rest k (upd ρ d v') ds w) :
    RunL P b cs fin n all (⟨some d, .slice T x none (some z) none, ty, pos, af, g⟩ :: rest) k ρ ds w := by
  obtain ⟨v', h1, h2⟩ := x_headv (P := P) (ty := ty) hr hx hz hu hs hq
  exact l_x hg (h2 w) (h v' h1)
end
end Go.Vk

/- The proof engine, part 22: conversions that wrap. Generic over the program. -/
namespace Go.Vk
open Go
section
variable {P : Program} {ev : Operand → Value} {w : World} {ty : TypeId} {x y : Operand} {S T T' : TypeId} {a c : Int}
/-- A conversion between kinds of integers, wrapped. -/
theorem x_convertw {s k : IntKind} {u : TypeDesc} (hx : ev x = .int s a) (hs : ∀ w, (underlying S).run P w = .ok u w) (hd : ∀ w, (underlying T).run P w = .ok (.int k) w) : X P ev (.convert S T x) ty w (.int k (k.wrap a)) w :=
  ⟨nofun, fun _ _ _ _ => by
    simp only [execOp, hx, convert, Sem.run_bind, hs, hd, Result.andThen_ok]
    cases u <;> simp [Conv.intToInt, go_sem]⟩
theorem x_remk {k : IntKind} (hx : ev x = .int k a) (hy : ev y = .int k c) (hb : 0 ≤ a ∧ 0 < c) : X P ev (.binOp .rem T x y T') ty w (.int k (a % c)) w := by
  refine ⟨nofun, fun _ _ _ _ => ?_⟩
  have h0 : c ≠ 0 := by omega
  have e : a.tmod c = a % c := Int.tmod_eq_emod_of_nonneg hb.1
  simp [execOp, hx, hy, binOp, eqGuard, Op.intDiv, go_sem, h0, e]
theorem u64_wrap_nonneg (a : Int) : 0 ≤ IntKind.u64.wrap a := by
  unfold IntKind.wrap
  simp only [IntKind.signed, Bool.false_and]
  exact Int.emod_nonneg _ (by decide)
end
end Go.Vk

/- Nets, as plain mathematics, part 14: the order of the arcs. No program in sight. -/
namespace Go.Vk.Flow
open Go

theorem ex_app : ∀ (as : List Arc) (ys : List Int) (bs : List Arc) (zs : List Int) (v : Nat), as.length = ys.length → ex (as ++ bs) (ys ++ zs) v = ex as ys v + ex bs zs v := by
  intro as
  induction as with
  | nil => intro ys bs zs v h; cases ys with
    | nil => simp [ex]
    | cons => simp at h
  | cons a as ih => intro ys bs zs v h; cases ys with
    | nil => simp at h
    | cons y ys =>
      have h1 := ih ys bs zs v (by simpa using h)
      simp only [List.cons_append, ex, h1]; omega
theorem dot_app : ∀ (as ys bs zs : List Int), as.length = ys.length → dot (as ++ bs) (ys ++ zs) = dot as ys + dot bs zs := by
  intro as
  induction as with
  | nil => intro ys bs zs h; cases ys with
    | nil => simp [dot]
    | cons => simp at h
  | cons a as ih => intro ys bs zs h; cases ys with
    | nil => simp at h
    | cons y ys =>
      have h1 := ih ys bs zs (by simpa using h)
      simp only [List.cons_append, dot, h1]; omega
theorem within_app : ∀ (as : List Arc) (ys : List Int) (bs : List Arc) (zs : List Int), as.length = ys.length → within (as ++ bs) (ys ++ zs) = (within as ys && within bs zs) := by
  intro as
  induction as with
  | nil => intro ys bs zs h; cases ys with
    | nil => simp [within]
    | cons => simp at h
  | cons a as ih => intro ys bs zs h; cases ys with
    | nil => simp at h
    | cons y ys =>
      have h1 := ih ys bs zs (by simpa using h)
      simp only [List.cons_append, within, h1, Bool.and_assoc]

/-- A list turned by k places. -/
def rot {α : Type} (l : List α) (k : Nat) : List α := l.drop k ++ l.take k
section
variable {α : Type} {l : List α} {k : Nat}
theorem rot_len : (rot l k).length = l.length := by simp [rot]; omega
theorem rot_rot : rot (rot l k) (l.length - k) = l := by
  have h1 : (l.drop k).length = l.length - k := List.length_drop
  rw [rot, rot, List.drop_left' h1, List.take_left' h1, List.take_append_drop]
theorem rot_rot' (h : k ≤ l.length) : rot (rot l (l.length - k)) k = l := by
  have h1 : (l.drop (l.length - k)).length = k := by rw [List.length_drop]; omega
  rw [rot, rot, List.drop_left' h1, List.take_left' h1, List.take_append_drop]
theorem mem_rot {a : α} : a ∈ rot l k ↔ a ∈ l := by
  rw [rot, List.mem_append, or_comm, ← List.mem_append, List.take_append_drop]
theorem rot_get {j : Nat} (hk : k < l.length) (hj : j < l.length) : (rot l k)[j]? = l[(j + k) % l.length]? := by
  rw [rot, List.getElem?_append]
  split
  · rename_i h
    rw [List.length_drop] at h
    rw [List.getElem?_drop, Nat.mod_eq_of_lt (by omega), Nat.add_comm]
  · rename_i h
    rw [List.length_drop] at *
    have e : (j + k) % l.length = j + k - l.length := by rw [Nat.mod_eq_sub_mod (by omega), Nat.mod_eq_of_lt (by omega)]
    rw [List.getElem?_take, if_pos (by omega), e]
    congr 1; omega
theorem rot_map {β : Type} (f : α → β) : (rot l k).map f = rot (l.map f) k := by simp [rot]
end
section
variable {N : Int} {arcs : List Arc} {wl x : List Int} {k : Nat}
theorem ex_rot (h : arcs.length = x.length) (v : Nat) : ex (rot arcs k) (rot x k) v = ex arcs x v := by
  have e1 : (arcs.take k).length = (x.take k).length := by simp [h]
  have e2 : (arcs.drop k).length = (x.drop k).length := by simp [h]
  have e := ex_app (arcs.take k) (x.take k) (arcs.drop k) (x.drop k) v e1
  rw [List.take_append_drop, List.take_append_drop] at e
  rw [e, rot, rot, ex_app _ _ _ _ _ e2]; omega
theorem dot_rot (h : wl.length = x.length) : dot (rot wl k) (rot x k) = dot wl x := by
  have e1 : (wl.take k).length = (x.take k).length := by simp [h]
  have e2 : (wl.drop k).length = (x.drop k).length := by simp [h]
  have e := dot_app (wl.take k) (x.take k) (wl.drop k) (x.drop k) e1
  rw [List.take_append_drop, List.take_append_drop] at e
  rw [e, rot, rot, dot_app _ _ _ _ e2]; omega
theorem within_rot (h : arcs.length = x.length) : within (rot arcs k) (rot x k) = within arcs x := by
  have e1 : (arcs.take k).length = (x.take k).length := by simp [h]
  have e2 : (arcs.drop k).length = (x.drop k).length := by simp [h]
  have e := within_app (arcs.take k) (x.take k) (arcs.drop k) (x.drop k) e1
  rw [List.take_append_drop, List.take_append_drop] at e
  rw [e, rot, rot, within_app _ _ _ _ e2, Bool.and_comm]
theorem Circ.rot (h : Circ arcs x) : Circ (rot arcs k) (rot x k) := by
  obtain ⟨⟨h1, h2⟩, h3⟩ := h
  refine ⟨⟨by rw [rot_len, rot_len, h1], ?_⟩, fun v => by rw [ex_rot h1.symm, h3]⟩
  rw [← within_iff _ _ (by rw [rot_len, rot_len, h1]), within_rot h1.symm, within_iff _ _ h1.symm]; exact h2
theorem Circ.unrot (_hk : k ≤ arcs.length) (h : Circ (Flow.rot arcs k) x) : Circ arcs (Flow.rot x (arcs.length - k)) := by
  have h1 := h.rot (k := arcs.length - k)
  rwa [rot_rot] at h1
theorem chk_rot : chk N (rot arcs k) = chk N arcs := by
  have e : (rot arcs k).any (fun a => !okArc N a) = arcs.any (fun a => !okArc N a) := by
    rw [Bool.eq_iff_iff, List.any_eq_true, List.any_eq_true]
    constructor
    · rintro ⟨a, ha, h⟩; exact ⟨a, mem_rot.1 ha, h⟩
    · rintro ⟨a, ha, h⟩; exact ⟨a, mem_rot.2 ha, h⟩
  rw [chk, chk, rot_len, e]
theorem row_rot {n a b : Int} : row (rot wl k) n a b = row wl n a b := by
  rw [Bool.eq_iff_iff, row_iff, row_iff, rot_len]
  exact ⟨fun ⟨h1, h2⟩ => ⟨h1, fun x hx => h2 x (mem_rot.2 hx)⟩, fun ⟨h1, h2⟩ => ⟨h1, fun x hx => h2 x (mem_rot.1 hx)⟩⟩
theorem askw_rot : askw N (rot arcs k) (rot wl k) = askw N arcs wl := by rw [askw, askw, askd, askd, chk_rot, row_rot, rot_len]
theorem Valid.rot (h : Valid N arcs) : Valid N (rot arcs k) := chk_zero.1 (by rw [chk_rot]; exact chk_zero.2 h)
/-- The greatest sum does not depend on the order. -/
theorem GrR.turn {n n' e e' : Int} {y p q : List Int} (hk : k ≤ arcs.length) (h1 : GrR N arcs wl n x p e) (h2 : GrR N (Flow.rot arcs k) (Flow.rot wl k) n' y q e') : n = n' ∧ e = e' := by
  cases h1 with
  | bad g1 =>
    cases h2 with
    | bad => exact ⟨rfl, askw_rot.symm⟩
    | no hV hw _ => exact absurd (by rw [← askw_rot (k := k)]; exact askw_zero.2 ⟨hV, hw⟩) g1
    | yes hV hw _ => exact absurd (by rw [← askw_rot (k := k)]; exact askw_zero.2 ⟨hV, hw⟩) g1
  | no hV hw g1 =>
    cases h2 with
    | bad g => exact absurd (by rw [askw_rot]; exact askw_zero.2 ⟨hV, hw⟩) g
    | no => exact ⟨rfl, rfl⟩
    | yes _ _ g => exact (g1.no hV (g.circ.unrot hk)).elim
  | yes hV hw g1 =>
    cases h2 with
    | bad g => exact absurd (by rw [askw_rot]; exact askw_zero.2 ⟨hV, hw⟩) g
    | no _ _ g => exact (g.no hV.rot g1.circ.rot).elim
    | yes hV2 hw2 g =>
      have l1 := g1.circ.bds.1
      have l2 := g.circ.bds.1
      have hwl := hw.len
      rw [rot_len] at l2
      have a1 := g.max hV2 hw2.len (g1.circ.rot (k := k))
      rw [dot_rot (by omega)] at a1
      have a2 := g1.max hV hw.len (g.circ.unrot hk)
      rw [← dot_rot (k := k) (by rw [rot_len]; omega), show arcs.length - k = y.length - k by omega, rot_rot' (by omega)] at a2
      exact ⟨by omega, rfl⟩
end
/-- Where an arc stands after the turn. -/
def spot (n i k : Nat) : Nat := (i + n - k) % n
theorem spot_lt {n i k : Nat} (h : i < n) : spot n i k < n := Nat.mod_lt _ (by omega)
theorem spot_back {n i k : Nat} (hi : i < n) (hk : k < n) : (spot n i k + k) % n = i := by
  unfold spot
  rcases Nat.lt_or_ge i k with h | h
  · rw [Nat.mod_eq_of_lt (by omega : i + n - k < n), show i + n - k + k = i + n by omega, Nat.add_mod_right, Nat.mod_eq_of_lt hi]
  · rw [show i + n - k = (i - k) + n by omega, Nat.add_mod_right, Nat.mod_eq_of_lt (by omega : i - k < n), show i - k + k = i by omega, Nat.mod_eq_of_lt hi]
theorem nth_rot {l : List Int} {i k : Nat} (hi : i < l.length) (hk : k < l.length) : nth (rot l k) (spot l.length i k) = nth l i := by
  have h1 := rot_get hk (spot_lt (k := k) hi)
  rw [spot_back hi hk, nth_get hi] at h1
  exact nth_of h1
section
variable {N : Int} {arcs : List Arc} {k i : Nat}
theorem Opt.unit_max {c : Int} {x q y : List Int} (h : Opt N arcs (unit arcs.length i c) x q) (hV : Valid N arcs) (hi : i < arcs.length) (hy : Circ arcs y) : c * nth y i ≤ c * nth x i := by
  have h1 := h.max hV (unit_length ..) hy
  rwa [dot_unit (k := c) arcs.length i x hi (nth_get (by have := h.circ.bds.1; omega)), dot_unit (k := c) arcs.length i y hi (nth_get (by have := hy.bds.1; omega))] at h1
/-- The range of an arc does not depend on the order. -/
theorem RaR.turn {lo hi lo' hi' e e' : Int} (hk : k < arcs.length) (hi0 : i < arcs.length) (h1 : RaR N arcs i lo hi e) (h2 : RaR N (rot arcs k) (spot arcs.length i k) lo' hi' e') : lo = lo' ∧ hi = hi' ∧ e = e' := by
  have hs := spot_lt (k := k) hi0
  have ea : aski N (rot arcs k) (spot arcs.length i k) = aski N arcs i := by
    have b1 : inb arcs i = true := decide_eq_true (by omega)
    have b2 : inb (rot arcs k) (spot arcs.length i k) = true := decide_eq_true (by rw [rot_len]; omega)
    rw [aski, aski, askd, askd, chk_rot, b1, b2]
  cases h1 with
  | bad g1 =>
    cases h2 with
    | bad => exact ⟨rfl, rfl, ea.symm⟩
    | no g _ => exact absurd (ea.symm.trans g) g1
    | yes g _ _ => exact absurd (ea.symm.trans g) g1
  | no g0 g1 =>
    have hV := (aski_zero.1 g0).1
    cases h2 with
    | bad g => exact absurd (ea.trans g0) g
    | no => exact ⟨rfl, rfl, rfl⟩
    | yes _ g _ => exact (g1.no hV (g.circ.unrot (by omega))).elim
  | yes g0 g1 g2 =>
    rename_i x q y r
    have hV := (aski_zero.1 g0).1
    cases h2 with
    | bad g => exact absurd (ea.trans g0) g
    | no _ g => exact (g.no hV.rot g1.circ.rot).elim
    | yes g9 f1 f2 =>
      rename_i x' q' y' r'
      simp only [Int.toNat_natCast] at *
      have l1 := g1.circ.bds.1
      have l2 := g2.circ.bds.1
      have l3 := f1.circ.bds.1
      have l4 := f2.circ.bds.1
      rw [rot_len] at l3 l4
      have hs' : spot arcs.length i k < (rot arcs k).length := by rw [rot_len]; exact hs
      have a1 := f1.unit_max hV.rot hs' (g1.circ.rot (k := k))
      have a2 := f2.unit_max hV.rot hs' (g2.circ.rot (k := k))
      have a3 := g1.unit_max hV hi0 (f1.circ.unrot (by omega))
      have a4 := g2.unit_max hV hi0 (f2.circ.unrot (by omega))
      have b1 := nth_rot (l := x) (i := i) (k := k) (by omega) (by omega)
      have b2 := nth_rot (l := y) (i := i) (k := k) (by omega) (by omega)
      have b3 := nth_rot (l := rot x' (arcs.length - k)) (i := i) (k := k) (by rw [rot_len]; omega) (by rw [rot_len]; omega)
      have b4 := nth_rot (l := rot y' (arcs.length - k)) (i := i) (k := k) (by rw [rot_len]; omega) (by rw [rot_len]; omega)
      rw [rot_len, show arcs.length - k = x'.length - k by omega, rot_rot' (by omega), l3] at b3
      rw [rot_len, show arcs.length - k = y'.length - k by omega, rot_rot' (by omega), l4] at b4
      rw [l1] at b1
      rw [l2] at b2
      exact ⟨by omega, by omega, trivial⟩
end
theorem take_one {α : Type} {l : List α} {j : Nat} {a : α} (h : l[j]? = some a) : l.take (j + 1) = l.take j ++ [a] := by rw [List.take_add_one, h]; rfl
theorem pre_all {α : Type} {l : List α} {z : α} {j : Nat} (h : j = l.length) : pre l z j = l := by subst h; exact pre_full
theorem rem_cast {j k n : Nat} : ((j : Int) + (k : Int)) % (n : Int) = (((j + k) % n : Nat) : Int) := by rw [Int.natCast_emod, Int.natCast_add]
theorem spot_cast {i : Int} {i' k n : Nat} (hi : i = i') (hk : k ≤ n) : (i + (n : Int) - (k : Int)) % (n : Int) = ((spot n i' k : Nat) : Int) := by
  rw [spot, Int.natCast_emod]; congr 1; omega
end Go.Vk.Flow
