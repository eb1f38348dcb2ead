/- Texts joined for a claim: VkFlowLaws5, VkLate, VkLate2, VkLate3, G4, G5, F19. -/
import Derived.Test.YtddapgjjndbejaaKh
import Derived.Test.YtddapgjjndbejaaKb
import Derived.Test.YtddapgjjndbejaaKc
import Derived.Test.YtddapgjjndbejaaKg
/- Nets, as plain mathematics, part 13: lists of records that grow one by one. No program in sight. -/
namespace Go.Vk.Flow
open Go

theorem lst_zero {L : List Int} {n : Int} (h : n = 0) : lst (L ++ [n]) = lst L :=
  lst_eq (lst_sorted L) fun x => by rw [mem_lst]; simp; omega
theorem lst_old {L : List Int} {n : Int} (h : n ∈ lst L) : lst (L ++ [n]) = lst L := by
  have h1 := (mem_lst.1 h)
  refine lst_eq (lst_sorted L) fun x => ?_
  rw [mem_lst]
  constructor
  · rintro ⟨a, b⟩; exact ⟨by simp [a], b⟩
  · rintro ⟨a, b⟩
    rcases List.mem_append.1 a with a | a
    · exact ⟨a, b⟩
    · simp at a; subst a; exact h1
theorem lst_new {L : List Int} {n : Int} {k : Nat} (hn : 0 < n) (h1 : ∀ x ∈ (lst L).drop k, n < x) (h2 : ∀ x ∈ (lst L).take k, x < n) : lst (L ++ [n]) = (lst L).take k ++ [n] ++ (lst L).drop k := by
  have hs := lst_sorted L
  have hs' : ((lst L).take k ++ (lst L).drop k).Pairwise (· < ·) := by rw [List.take_append_drop]; exact hs
  obtain ⟨p1, p2, p3⟩ := List.pairwise_append.1 hs'
  refine lst_eq (List.pairwise_append.2 ⟨List.pairwise_append.2 ⟨p1, by simp, fun x hx y hy => ?_⟩, p2, fun x hx y hy => ?_⟩) fun x => ?_
  · simp at hy; subst hy; exact h2 x hx
  · rcases List.mem_append.1 hx with hx | hx
    · exact p3 x hx y hy
    · simp at hx; subst hx; exact h1 y hy
  · have hm : x ∈ lst L ↔ x ∈ (lst L).take k ∨ x ∈ (lst L).drop k := by
      rw [← List.mem_append, List.take_append_drop]
    rw [mem_lst] at hm
    simp only [List.mem_append, List.mem_singleton]
    constructor
    · rintro ((h | h) | h)
      · exact ⟨.inl (hm.2 (.inl h)).1, (hm.2 (.inl h)).2⟩
      · subst h; exact ⟨.inr rfl, by omega⟩
      · exact ⟨.inl (hm.2 (.inr h)).1, (hm.2 (.inr h)).2⟩
    · rintro ⟨h | h, h0⟩
      · rcases hm.1 ⟨h, h0⟩ with h | h
        · exact .inl (.inl h)
        · exact .inr h
      · exact .inl (.inr h)
theorem lst_newl {l L : List Int} {n : Int} {k : Nat} (hl : l = lst L) (hn : 0 < n) (h1 : ∀ x ∈ l.drop k, n < x) (h2 : ∀ x ∈ l.take k, x < n) : lst (L ++ [n]) = l.take k ++ [n] ++ l.drop k := by
  subst hl; exact lst_new hn h1 h2
theorem drop_gt {l : List Int} {i : Nat} {x n : Int} (h : ∀ y ∈ l.drop i, n < y) (hx : l[i - 1]? = some x) (h0 : 0 < i) (hn : n < x) : ∀ y ∈ l.drop (i - 1), n < y := by
  obtain ⟨hlt, e⟩ := List.getElem?_eq_some_iff.1 hx
  rw [List.drop_eq_getElem_cons hlt, e, show i - 1 + 1 = i by omega]
  intro y hy
  rcases List.mem_cons.1 hy with h' | h'
  · subst h'; exact hn
  · exact h y h'
theorem take_lt {l : List Int} (hs : l.Pairwise (· < ·)) {i : Nat} {x n : Int} (hx : l[i - 1]? = some x) (h0 : 0 < i) (hn : x < n) : ∀ y ∈ l.take i, y < n := by
  obtain ⟨hlt, e⟩ := List.getElem?_eq_some_iff.1 hx
  intro y hy
  obtain ⟨j, hj, rfl⟩ := List.mem_take_iff_getElem.1 hy
  rcases Nat.lt_or_ge j (i - 1) with h | h
  · have := List.pairwise_iff_getElem.1 hs j (i - 1) (by omega) hlt h
    omega
  · have : j = i - 1 := by omega
    subst this; omega
theorem lst_nil : lst [] = [] := lst_eq (by simp) (by simp)
theorem recs_one_hi {a : Arc} : recs [(a, true)] = [a.hiBy] := rfl
theorem recs_one_lo {a : Arc} (h : 0 < a.lo) : recs [(a, false)] = [a.loBy] := by simp [recs, rec1, h]
theorem recs_one_no {a : Arc} (h : ¬ 0 < a.lo) : recs [(a, false)] = [] := by simp [recs, rec1, h]
theorem recs_app (s t : List (Arc × Bool)) : recs (s ++ t) = recs s ++ recs t := by simp [recs]
theorem orecs_app (s t : List (Arc × Bool)) : orecs (s ++ t) = orecs s ++ orecs t := by simp [orecs, recs]
section
variable {ns : List Int} {arcs : List Arc} {i : Nat} {a : Arc}
theorem oc_lo (ha : arcs[i]? = some a) (hs : decide (a.src ∈ ns) = true) (hd : decide (a.dst ∈ ns) = false) (h : 0 < a.lo) : lst (orecs (cutl ns (arcs.take (i + 1)))) = lst (orecs (cutl ns (arcs.take i)) ++ [a.loBy]) := by
  rw [cutl_take ha, cut1, hs, hd, if_pos (by decide), orecs_snoc]; simp [rec1, h]
theorem oc_lo0 (ha : arcs[i]? = some a) (hs : decide (a.src ∈ ns) = true) (hd : decide (a.dst ∈ ns) = false) (h : ¬ 0 < a.lo) : lst (orecs (cutl ns (arcs.take (i + 1)))) = lst (orecs (cutl ns (arcs.take i))) := by
  rw [cutl_take ha, cut1, hs, hd, if_pos (by decide), orecs_snoc]; simp [rec1, h]
theorem oc_hi (ha : arcs[i]? = some a) (hs : decide (a.src ∈ ns) = false) (hd : decide (a.dst ∈ ns) = true) : lst (orecs (cutl ns (arcs.take (i + 1)))) = lst (orecs (cutl ns (arcs.take i)) ++ [a.hiBy]) := by
  rw [cutl_take ha, cut1, hs, hd, if_pos (by decide), orecs_snoc]; rfl
theorem oc_no (ha : arcs[i]? = some a) {b c : Bool} (hs : decide (a.src ∈ ns) = b) (hd : decide (a.dst ∈ ns) = c) (e : b = c) : lst (orecs (cutl ns (arcs.take (i + 1)))) = lst (orecs (cutl ns (arcs.take i))) := by
  rw [cutl_take ha, cut1, hs, hd, e, if_neg (by simp), List.append_nil]
end
end Go.Vk.Flow
namespace Go.Vk.Flow
open Go
section
variable {N : Int} {arcs : List Arc} {w x p ns : List Int} {A : Int} {k k' : Bool} {s s' e e' : Int}
theorem bool_same {P : Prop} (h : k = true ↔ P) (h' : k' = true ↔ P) : k' = k := by
  cases k <;> cases k' <;> simp_all
theorem KeptR.same (h : KeptR N arcs x k e) (h' : KeptR N arcs x k' e') : k = k' ∧ e = e' := ⟨bool_same h'.2 h.2, h.1.trans h'.1.symm⟩
theorem SumR.same (h : SumR N arcs w x s e) (h' : SumR N arcs w x s' e') : s = s' ∧ e = e' := by
  obtain ⟨h1, h2⟩ := h; obtain ⟨h3, h4⟩ := h'
  have he : e' = e := h3.trans h1.symm
  subst he
  exact ⟨h2.trans h4.symm, rfl⟩
theorem BoundR.same (h : BoundR N arcs w p s e) (h' : BoundR N arcs w p s' e') : s = s' ∧ e = e' := by
  obtain ⟨h1, h2⟩ := h; obtain ⟨h3, h4⟩ := h'
  have he : e' = e := h3.trans h1.symm
  subst he
  exact ⟨h2.trans h4.symm, rfl⟩
theorem BestR.same (h : BestR N arcs w x p k e) (h' : BestR N arcs w x p k' e') : k = k' ∧ e = e' := by
  obtain ⟨h1, h2⟩ := h; obtain ⟨h3, h4⟩ := h'
  have he : e' = e := h3.trans h1.symm
  subst he
  exact ⟨bool_same h4 h2, rfl⟩
theorem orec_if_len (b : Bool) : (if askd N arcs b = 0 then orec arcs A ns else []).length ≤ 8000 := by
  split
  · next h => exact orec_len (askd_zero.1 h).1
  · exact Nat.zero_le _
theorem recs_if_len (b : Bool) : (if askd N arcs b = 0 then lst (recs (told p arcs w)) else []).length ≤ 4000 := by
  split
  · next h => have h1 := lst_len (recs (told p arcs w)); have h2 := recs_len (told p arcs w); have h3 := told_len (p := p) arcs w; have h4 := (askd_zero.1 h).1.len; omega
  · exact Nat.zero_le _
end
end Go.Vk.Flow

/- The proof engine, part 21: what was met late. Generic over the program. -/
namespace Go.Vk
open Go
section
variable {P : Program} {b : Frame} {cs : List Frame} {fin : Machine → Prop} {n : Nat} {k : List Item} {ρ : Env} {ds : List Deferred} {w : World} {all : Array Oper} {rest : List Oper}
  {d : Nat} {ty : TypeId} {pos : String} {af : Array Edge} {g : Option (Nat × Bool)} {v : Value} {T : TypeId} {x z : Operand} {α : Type} {E : Elt α} {l : List α} {q : Int}
/-- The head of a slice, to be read. -/
theorem l_head (hr : Rd E w v l) (hg : gOk all n ρ g = true) (hx : ev n ρ x = v) (hz : ev n ρ z = .int .i64 q)
    (hu : ∀ w, (underlying T).run P w = .ok (.slice E.T) w) (hs : ∀ w, (sizeOf E.T).run P w = .ok E.sz w) (hq : 0 ≤ q ∧ q ≤ l.length)
    (h : ∀ v', Rd E w v' (l.take q.toNat) → RunL P b cs fin n all rest k (upd ρ d v') ds w) :
    RunL P b cs fin n all (⟨some d, .slice T x none (some z) none, ty, pos, af, g⟩ :: rest) k ρ ds w := by
  obtain ⟨v', h1, h2⟩ := x_headv (P := P) (ty := ty) hr hx hz hu hs hq
  exact l_x hg (h2 w) (h v' h1)
end
end Go.Vk

/- The proof engine, part 22: conversions that wrap. Generic over the program. -/
namespace Go.Vk
open Go
section
variable {P : Program} {ev : Operand → Value} {w : World} {ty : TypeId} {x y : Operand} {S T T' : TypeId} {a c : Int}
/-- A conversion between kinds of integers, wrapped. -/
theorem x_convertw {s k : IntKind} {u : TypeDesc} (hx : ev x = .int s a) (hs : ∀ w, (underlying S).run P w = .ok u w) (hd : ∀ w, (underlying T).run P w = .ok (.int k) w) : X P ev (.convert S T x) ty w (.int k (k.wrap a)) w :=
  ⟨nofun, fun _ _ _ _ => by
    simp only [execOp, hx, convert, Sem.run_bind, hs, hd, Result.andThen_ok]
    cases u <;> simp [Conv.intToInt, go_sem]⟩
theorem x_remk {k : IntKind} (hx : ev x = .int k a) (hy : ev y = .int k c) (hb : 0 ≤ a ∧ 0 < c) : X P ev (.binOp .rem T x y T') ty w (.int k (a % c)) w := by
  refine ⟨nofun, fun _ _ _ _ => ?_⟩
  have h0 : c ≠ 0 := by omega
  have e : a.tmod c = a % c := Int.tmod_eq_emod_of_nonneg hb.1
  simp [execOp, hx, hy, binOp, eqGuard, Op.intDiv, go_sem, h0, e]
theorem u64_wrap_nonneg (a : Int) : 0 ≤ IntKind.u64.wrap a := by
  unfold IntKind.wrap
  simp only [IntKind.signed, Bool.false_and]
  exact Int.emod_nonneg _ (by decide)
end
end Go.Vk

/- The proof engine, part 23: slices of nets. Generic over the program. -/
namespace Go.Vk
open Go
/-- A net in a slice: its nodes and the header of its arcs. -/
def netE (T : TypeId) : Elt (Int × Hd) where
  T := T
  sz := 2
  enc p := [.int .i64 p.1, hv p.2]
  zero := [.int .i64 0, .slice none 0 0]
  len _ := rfl
  zlen := rfl
  one a x h := by simp at h; rcases h with h | h <;> subst h <;> rfl
  pos := by decide
theorem rd_hv {α : Type} {E : Elt α} {w : World} {v : Value} {l : List α} (h : Rd E w v l) : ∃ d, v = hv d := by
  obtain ⟨a, cap, rfl, _⟩ := h
  exact ⟨(a, l.length, cap), rfl⟩
end Go.Vk

/-
  Contracts of functions of the program: each by symbolic execution of its text.
-/
namespace Go.Proofs
open Go Go.Vk Go.Vk.Flow

theorem own_cast {X : Nat → Prop} {w w' : World} {v : Value} {a b : List Int} (e : a = b) (h : Own X w w' [vec EI v b]) : Own X w w' [vec EI v a] := by subst e; exact h

set_option maxHeartbeats 2000000 in
/-- couchant/couchantref06.put. -/
theorem c_rput0 (vl : Value) (l L : List Int) (n : Int) (hl : l = lst L) (hn : 0 ≤ n) (hm : L.length ≤ 1000000) (w : World) (S : Own (vec EI vl l).fp w w [vec EI vl l]) :
    Cl Try.prog 82 #[vl, .int .i64 n] w fun v w' => Own (vec EI vl l).fp w w' [vec EI v (lst (L ++ [n]))] := by
  have hls : l.length ≤ L.length := hl ▸ lst_len L
  refine fn_of_run (args := [_, _]) 51 Try.func82 rfl rfl rfl fun cs => ?_
  refine r_seq ?_
  refine r_region ?_
  refine l_x rfl (x_as rfl) ?_
  refine l_nil ?_
  refine r_seq ?_
  refine r_seq ?_
  refine r_region ?_
  refine l_x rfl (x_mv rfl) ?_
  refine l_x rfl (x_leq rfl rfl) ?_
  refine l_nil ?_
  refine r_ifd rfl (fun hc8 => ?_) (fun hc8 => ?_)
  · skip
    refine r_seq ?_
    refine r_region ?_
    refine l_x rfl (x_mv rfl) ?_
    refine l_x rfl (x_as rfl) ?_
    refine l_nil ?_
    refine r_ret (rs := [.tmp 4]) [_] Try.func82 rfl ⟨rfl, trivial⟩ ?_
    exact own_cast ((lst_zero (by omega)).trans hl.symm) S
  · skip
    refine r_skip ?_
    refine r_seq ?_
    refine r_region ?_
    refine l_x rfl (x_mv rfl) ?_
    refine l_x rfl (x_len (vec_rd (S.at 0 rfl)) rfl Try.runUnderlying25) ?_
    refine l_x rfl (x_as rfl) ?_
    refine l_nil ?_
    refine r_seq ?_
    refine r_block ?_
    refine r_loop (G := Nat) (fun i => i) (fun i => [(0, vl), (1, .int .i64 n), (5, .int .i64 i)]) (fun i w' => (i ≤ l.length) ∧ (∀ x ∈ l.drop i, n < x) ∧ Own (vec EI vl l).fp w w' [vec EI vl l]) l.length ⟨rfl, rfl, rfl, trivial⟩ ⟨Nat.le_refl _, by simp, S⟩ ?_
    rintro i ρ w1 ⟨hi, hgt, S1⟩ IH
    refine r_seq ?_
    refine r_seq ?_
    refine r_region ?_
    refine l_x rfl (x_mv rfl) ?_
    refine l_x rfl (x_gtr rfl rfl) ?_
    refine l_x rfl (x_mv rfl) ?_
    refine l_splitd (d := 14) rfl (fun hg14 => ?_) (fun hg14 => ?_)
    · skip
      obtain ⟨x, hx⟩ : ∃ x, l[((i:Int) - 1).toNat]? = some x := ⟨_, List.getElem?_eq_getElem (by omega)⟩
      have hx' : l[i - 1]? = some x := by rw [← hx]; congr 1; omega
      refine l_x rfl (x_mv rfl) ?_
      refine l_x rfl (x_mv rfl) ?_
      refine l_x rfl (x_sub rfl rfl (by omega)) ?_
      refine l_index EI rfl (vec_rd (S1.at 0 rfl)) rfl rfl Try.runUnderlying25 Try.sizeOf3 (by omega) hx ?_
      intro b1 o2 hat3 row4
      refine l_x rfl (x_load rfl (ld_cell Try.isAgg3 (row4 0 _ rfl))) ?_
      refine l_x rfl (x_mv rfl) ?_
      refine l_x rfl (x_gtr rfl rfl) ?_
      refine l_x rfl (x_pick_t rfl rfl) ?_
      refine l_nil ?_
      refine r_ifd rfl (fun hc22 => ?_) (fun hc22 => ?_)
      · skip
        refine r_skip ?_
        refine r_block ?_
        refine r_region ?_
        refine l_x rfl (x_mv rfl) ?_
        refine l_x rfl (x_sub rfl rfl (by omega)) ?_
        refine l_x rfl (x_as rfl) ?_
        refine l_nil ?_
        refine r_inBlock ?_
        exact IH (i - 1) _ _ (by omega) ⟨rfl, rfl, (congrArg (Value.int .i64) (by omega : (i:Int) - 1 = ((i - 1 : Nat) : Int))), trivial⟩ ⟨by omega, drop_gt hgt hx' (by omega) hc22, S1⟩
      · skip
        refine r_exit rfl ?_
        refine r_seq ?_
        refine r_seq ?_
        refine r_region ?_
        refine l_x rfl (x_mv rfl) ?_
        refine l_x rfl (x_gtr rfl rfl) ?_
        refine l_x rfl (x_mv rfl) ?_
        refine l_splitd (d := 27) rfl (fun hg27 => ?_) (fun hg27 => ?_)
        · skip
          refine l_x rfl (x_mv rfl) ?_
          refine l_x rfl (x_mv rfl) ?_
          refine l_x rfl (x_sub rfl rfl (by omega)) ?_
          refine l_index EI rfl (vec_rd (S1.at 0 rfl)) rfl rfl Try.runUnderlying25 Try.sizeOf3 (by omega) hx ?_
          intro b5 o6 hat7 row8
          refine l_x rfl (x_load rfl (ld_cell Try.isAgg3 (row8 0 _ rfl))) ?_
          refine l_x rfl (x_mv rfl) ?_
          refine l_x rfl (x_eql rfl rfl) ?_
          refine l_x rfl (x_pick_t rfl rfl) ?_
          refine l_nil ?_
          refine r_ifd rfl (fun hc35 => ?_) (fun hc35 => ?_)
          · skip
            refine r_seq ?_
            refine r_region ?_
            refine l_x rfl (x_mv rfl) ?_
            refine l_x rfl (x_as rfl) ?_
            refine l_nil ?_
            refine r_ret (rs := [.tmp 4]) [_] Try.func82 rfl ⟨rfl, trivial⟩ ?_
            exact own_cast ((lst_old (hl ▸ hc35 ▸ List.mem_of_getElem? hx)).trans hl.symm) S1
          · skip
            refine r_skip ?_
            refine r_seq ?_
            refine r_region ?_
            refine l_buildSlice EI [] S1 rfl Try.runUnderlying25 Try.sizeOf3 Try.zeroValue3 rfl trivial (Nat.le_of_ble_eq_true rfl) ?_
            intro v12 w9 S10 hl11
            refine l_x rfl (x_mv rfl) ?_
            refine l_x rfl (x_mv rfl) ?_
            refine l_head (vec_rd (S10.at 0 rfl)) rfl rfl rfl Try.runUnderlying25 Try.sizeOf3 (by omega) ?_
            intro v13 ht14
            refine l_append EI S10 1 rfl rfl rfl rfl ht14 Try.underlying25 info3 rfl rfl rfl (by rw [List.length_take]; unfold maxLen; simp; omega) (by rw [List.length_take]; show _ * 8 ≤ _; simp; omega) ?_
            intro v18 w15 S16 hk17 hv19
            refine l_x rfl (x_as rfl) ?_
            refine l_nil ?_
            refine r_seq ?_
            refine r_region ?_
            refine l_x rfl (x_mv rfl) ?_
            refine l_x rfl (x_mv rfl) ?_
            refine l_buildSlice EI [_] S16 rfl Try.runUnderlying25 Try.sizeOf3 Try.zeroValue3 rfl ⟨rfl, rfl, trivial⟩ (Nat.le_of_ble_eq_true rfl) ?_
            intro v23 w20 S21 hl22
            refine l_append EI S21 1 rfl rfl rfl rfl (vec_rd (S21.at 2 rfl)) Try.underlying25 info3 rfl rfl rfl (by simp only [List.nil_append, List.length_append, List.length_take, List.length_singleton]; unfold maxLen; omega) (by simp only [List.nil_append, List.length_append, List.length_take, List.length_singleton]; show _ * 8 ≤ _; omega) ?_
            intro v27 w24 S25 hk26 hv28
            refine l_x rfl (x_as rfl) ?_
            refine l_nil ?_
            refine r_seq ?_
            refine r_region ?_
            refine l_x rfl (x_mv rfl) ?_
            refine l_x rfl (x_mv rfl) ?_
            refine l_x rfl (x_mv rfl) ?_
            refine l_tail S25 0 rfl rfl rfl rfl Try.runUnderlying25 Try.sizeOf3 (by omega) ?_
            intro v29 ht30
            refine l_append EI S25 1 rfl rfl rfl rfl (tail_rd ht30 (S25.at 0 rfl)) Try.underlying25 info3 rfl rfl rfl (by simp only [List.nil_append, List.length_append, List.length_take, List.length_drop, List.length_singleton]; unfold maxLen; omega) (by simp only [List.nil_append, List.length_append, List.length_take, List.length_drop, List.length_singleton]; show _ * 8 ≤ _; omega) ?_
            intro v34 w31 S32 hk33 hv35
            refine l_x rfl (x_as rfl) ?_
            refine l_nil ?_
            refine r_ret (rs := [.tmp 4]) [_] Try.func82 rfl ⟨rfl, trivial⟩ ?_
            have q1 : 0 < n := by omega
            have q2 : 0 < i := by omega
            have q3 : x < n := by omega
            have q4 : l.Pairwise (· < ·) := by rw [hl]; exact lst_sorted L
            have q5 := take_lt q4 hx' q2 q3
            have q6 := lst_newl (k := i) hl q1 hgt q5
            have hS : Own _ _ _ [_] := S32.pick [1] (by decide) rfl
            rw [List.nil_append, Int.toNat_natCast] at hS
            exact own_cast q6 hS
        · omega
    · skip
      refine l_pass rfl ?_
      refine l_pass rfl ?_
      refine l_pass rfl ?_
      refine l_pass rfl ?_
      refine l_pass rfl ?_
      refine l_pass rfl ?_
      refine l_pass rfl ?_
      refine l_x rfl (x_pick_f rfl rfl) ?_
      refine l_nil ?_
      refine r_false rfl ?_
      refine r_exit rfl ?_
      refine r_seq ?_
      refine r_seq ?_
      refine r_region ?_
      refine l_x rfl (x_mv rfl) ?_
      refine l_x rfl (x_gtr rfl rfl) ?_
      refine l_x rfl (x_mv rfl) ?_
      refine l_splitd (d := 27) rfl (fun hg27 => ?_) (fun hg27 => ?_)
      · omega
      · skip
        refine l_pass rfl ?_
        refine l_pass rfl ?_
        refine l_pass rfl ?_
        refine l_pass rfl ?_
        refine l_pass rfl ?_
        refine l_pass rfl ?_
        refine l_pass rfl ?_
        refine l_x rfl (x_pick_f rfl rfl) ?_
        refine l_nil ?_
        refine r_false rfl ?_
        refine r_skip ?_
        refine r_seq ?_
        refine r_region ?_
        refine l_buildSlice EI [] S1 rfl Try.runUnderlying25 Try.sizeOf3 Try.zeroValue3 rfl trivial (Nat.le_of_ble_eq_true rfl) ?_
        intro v39 w36 S37 hl38
        refine l_x rfl (x_mv rfl) ?_
        refine l_x rfl (x_mv rfl) ?_
        refine l_head (vec_rd (S37.at 0 rfl)) rfl rfl rfl Try.runUnderlying25 Try.sizeOf3 (by omega) ?_
        intro v40 ht41
        refine l_append EI S37 1 rfl rfl rfl rfl ht41 Try.underlying25 info3 rfl rfl rfl (by rw [List.length_take]; unfold maxLen; simp; omega) (by rw [List.length_take]; show _ * 8 ≤ _; simp; omega) ?_
        intro v45 w42 S43 hk44 hv46
        refine l_x rfl (x_as rfl) ?_
        refine l_nil ?_
        refine r_seq ?_
        refine r_region ?_
        refine l_x rfl (x_mv rfl) ?_
        refine l_x rfl (x_mv rfl) ?_
        refine l_buildSlice EI [_] S43 rfl Try.runUnderlying25 Try.sizeOf3 Try.zeroValue3 rfl ⟨rfl, rfl, trivial⟩ (Nat.le_of_ble_eq_true rfl) ?_
        intro v50 w47 S48 hl49
        refine l_append EI S48 1 rfl rfl rfl rfl (vec_rd (S48.at 2 rfl)) Try.underlying25 info3 rfl rfl rfl (by simp only [List.nil_append, List.length_append, List.length_take, List.length_singleton]; unfold maxLen; omega) (by simp only [List.nil_append, List.length_append, List.length_take, List.length_singleton]; show _ * 8 ≤ _; omega) ?_
        intro v54 w51 S52 hk53 hv55
        refine l_x rfl (x_as rfl) ?_
        refine l_nil ?_
        refine r_seq ?_
        refine r_region ?_
        refine l_x rfl (x_mv rfl) ?_
        refine l_x rfl (x_mv rfl) ?_
        refine l_x rfl (x_mv rfl) ?_
        refine l_tail S52 0 rfl rfl rfl rfl Try.runUnderlying25 Try.sizeOf3 (by omega) ?_
        intro v56 ht57
        refine l_append EI S52 1 rfl rfl rfl rfl (tail_rd ht57 (S52.at 0 rfl)) Try.underlying25 info3 rfl rfl rfl (by simp only [List.nil_append, List.length_append, List.length_take, List.length_drop, List.length_singleton]; unfold maxLen; omega) (by simp only [List.nil_append, List.length_append, List.length_take, List.length_drop, List.length_singleton]; show _ * 8 ≤ _; omega) ?_
        intro v61 w58 S59 hk60 hv62
        refine l_x rfl (x_as rfl) ?_
        refine l_nil ?_
        refine r_ret (rs := [.tmp 4]) [_] Try.func82 rfl ⟨rfl, trivial⟩ ?_
        have q1 : 0 < n := by omega
        have q6 := lst_newl (k := i) hl q1 hgt (by intro y hy; rw [show i = 0 by omega] at hy; cases hy)
        have hS : Own _ _ _ [_] := S59.pick [1] (by decide) rfl
        rw [List.nil_append, Int.toNat_natCast] at hS
        exact own_cast q6 hS

theorem Own.recast {X : Nat → Prop} {w w' : World} {v : Value} {A : Rsc} {a b : List Int} (h : Own X w w' [A, vec EI v b]) (e : a = b) : Own X w w' [A, vec EI v a] := by subst e; exact h
section
variable {p wl : List Int} {arcs : List Arc} {i : Nat} {a : Arc} {y : Int} (ha : arcs[i]? = some a) (hy : wl[i]? = some y)
include ha hy
theorem rec_hi (h : 0 < rst p a y) : lst (recs (told p (arcs.take (i + 1)) (wl.take (i + 1)))) = lst (recs (told p (arcs.take i) (wl.take i)) ++ [a.hiBy]) := by rw [told_take ha hy, told1_pos h, recs_app, recs_one_hi]
theorem rec_lo (h : rst p a y < 0) (h2 : 0 < a.lo) : lst (recs (told p (arcs.take (i + 1)) (wl.take (i + 1)))) = lst (recs (told p (arcs.take i) (wl.take i)) ++ [a.loBy]) := by rw [told_take ha hy, told1_neg h, recs_app, recs_one_lo h2]
theorem rec_lo0 (h : rst p a y < 0) (h2 : ¬ 0 < a.lo) : lst (recs (told p (arcs.take (i + 1)) (wl.take (i + 1)))) = lst (recs (told p (arcs.take i) (wl.take i))) := by rw [told_take ha hy, told1_neg h, recs_app, recs_one_no h2, List.append_nil]
theorem rec_no (h : ¬ 0 < rst p a y) (h2 : ¬ rst p a y < 0) : lst (recs (told p (arcs.take (i + 1)) (wl.take (i + 1)))) = lst (recs (told p (arcs.take i) (wl.take i))) := by rw [told_take ha hy, told1_zero h h2, List.append_nil]
end

set_option maxHeartbeats 2000000 in
/-- couchant/couchantref06.Records. -/
theorem c_rRecords (N : Int) (va : Value) (arcs : List Arc) (vw : Value) (wl : List Int) (vp : Value) (p : List Int) (hmwl : wl.length ≤ 9223372036854775807) (hmp : p.length ≤ 9223372036854775807) (w : World) (hA : Rd EA w va arcs) (Hwl : Rd EI w vw wl) (Hp : Rd EI w vp p) :
    Cl Try.prog 41 #[.agg #[.int .i64 N, va], vw, vp] w fun v w' => ∃ s, v = .tuple #[s, .int .i64 (askd N arcs (row wl arcs.length (-1000) 1000 && row p N (-10000000) 10000000))] ∧ New w w' (vec EI s (if askd N arcs (row wl arcs.length (-1000) 1000 && row p N (-10000000) 10000000) = 0 then lst (recs (told p arcs wl)) else [])) ∧ Le w w' := by
  refine fn_of_run (args := [_, _, _]) 66 Try.func41 rfl rfl rfl fun cs => ?_
  have S := Own.start (X := nob) w
  refine r_seq ?_
  refine r_region ?_
  refine l_box S rfl rfl ?_
  intro b4 w1 S2 hl3
  refine l_x rfl (x_as rfl) ?_
  refine l_x rfl (x_as rfl) ?_
  refine l_nil ?_
  refine r_seq ?_
  refine r_drawR 11 Try.mixed (by kernel_rfl) ?_
  refine w_x rfl (fun w1 h1 => x_load rfl (ld_blks ((S2.step h1).blk 0 rfl) Try.isAgg24 Try.sizeOf24 rfl rfl)) ?_
  refine w_x rfl (fun w1 h1 => x_load rfl (ld_blks ((S2.step h1).blk 0 rfl) Try.isAgg24 Try.sizeOf24 rfl rfl)) ?_
  refine w_x rfl (fun w1 h1 => x_mv rfl) ?_
  refine wd_call [] [] [_, _] rfl rfl Try.call47 rfl (fun w1 h1 => c_rWeights _ _ _ _ _ (by omega) _ (hA.le (S2.step h1).le) (Hwl.le (S2.step h1).le)) ?_
  refine w_x rfl (fun w1 h1 => x_mv rfl) ?_
  refine w_split (d := 16) rfl (fun hg16 => ?_) (fun hg16 => ?_)
  · skip
    have hWE : (row wl arcs.length (-1000) 1000 && row p N (-10000000) 10000000) = row p N (-10000000) 10000000 := by rw [show row wl arcs.length (-1000) 1000 = true from hg16, Bool.true_and]
    refine w_x rfl (fun w1 h1 => x_load rfl (ld_blks ((S2.step h1).blk 0 rfl) Try.isAgg24 Try.sizeOf24 rfl rfl)) ?_
    refine w_x rfl (fun w1 h1 => x_mv rfl) ?_
    refine wd_call [] [] [_, _] rfl rfl Try.call92 rfl (fun w1 h1 => c_rPotentials _ _ _ _ (by omega) _ (Hp.le (S2.step h1).le)) ?_
    refine w_x rfl (fun w1 h1 => x_pick_t rfl rfl) ?_
    refine wd_call [] [] [_, _] rfl rfl Try.call84 rfl (fun w1 h1 => c_rasked _ _ _ _ _ (hA.le (S2.step h1).le)) ?_
    refine w_x rfl (fun w1 h1 => x_as rfl) ?_
    refine w_nil ?_
    intro w5 hl6
    have S7 := S2.step hl6
    refine l_nil ?_
    refine r_seq ?_
    refine r_seq ?_
    refine r_region ?_
    refine l_x rfl (x_mv rfl) ?_
    refine l_x rfl (x_neq rfl rfl) ?_
    refine l_nil ?_
    refine r_ifd rfl (fun hc23 => ?_) (fun hc23 => ?_)
    · skip
      refine r_seq ?_
      refine r_region ?_
      refine l_x rfl (x_mv rfl) ?_
      refine l_x rfl (x_as rfl) ?_
      refine l_x rfl (x_as rfl) ?_
      refine l_nil ?_
      refine r_ret (rs := [.tmp 6, .tmp 7]) [_, _] Try.func41 rfl ⟨rfl, rfl, trivial⟩ ?_
      exact ⟨.slice none 0 0, congrArg (fun x => Value.tuple #[_, .int .i64 x]) (congrArg (askd N arcs) hWE).symm, by rw [if_neg (fun h => hc23 ((congrArg (askd N arcs) hWE).symm.trans h))]; exact New.nilvec .., S7.le⟩
    · skip
      have h0 := Decidable.not_not.1 hc23
      obtain ⟨hV, hq⟩ := askd_zero.1 h0
      have hw := row_wts.1 hg16
      have hp := row_pts.1 hq
      have hLx := hV.len
      have hwl := hw.len
      refine r_skip ?_
      refine r_seq ?_
      refine r_region ?_
      refine l_x rfl (x_as rfl) ?_
      have S8 := S7.nilvec (E := EI)
      refine l_nil ?_
      refine r_seq ?_
      refine r_seq ?_
      refine r_region ?_
      refine l_x rfl (x_as rfl) ?_
      refine l_nil ?_
      refine r_block ?_
      refine r_loop (G := Nat × Value) (fun ⟨i, vr⟩ => wl.length - i) (fun ⟨i, vr⟩ => [(3, .pointer (some ⟨b4, 0, none⟩)), (1, vw), (2, vp), (10, .int .i64 i), (9, vr)]) (fun ⟨i, vr⟩ w' => (i ≤ wl.length) ∧ Own nob w w' [blk b4 [.int .i64 N, va] 24, vec EI vr (lst (recs (told p (arcs.take i) (wl.take i))))]) (0, .slice none 0 0) ⟨rfl, rfl, rfl, rfl, rfl, trivial⟩ ⟨Nat.zero_le _, (Own.recast S8 lst_nil)⟩ ?_
      rintro ⟨i, vr⟩ ρ w1 ⟨hi, S1⟩ IH
      refine r_seq ?_
      refine r_seq ?_
      refine r_region ?_
      refine l_x rfl (x_mv rfl) ?_
      refine l_x rfl (x_mv rfl) ?_
      refine l_x rfl (x_len (Hwl.le S1.le) rfl Try.runUnderlying25) ?_
      refine l_x rfl (x_lss rfl rfl) ?_
      refine l_nil ?_
      refine r_ifd rfl (fun hc28 => ?_) (fun hc28 => ?_)
      · skip
        obtain ⟨a, ha⟩ : ∃ a, arcs[i]? = some a := ⟨_, List.getElem?_eq_getElem (by omega)⟩
        obtain ⟨y, hy⟩ : ∃ y, wl[i]? = some y := ⟨_, List.getElem?_eq_getElem (by omega)⟩
        have hok := hV.at ha
        refine r_skip ?_
        refine r_seq ?_
        refine r_block ?_
        refine r_seq ?_
        refine r_region ?_
        refine l_x rfl (x_load rfl (ld_blks (S1.blk 0 rfl) Try.isAgg24 Try.sizeOf24 rfl rfl)) ?_
        refine l_x rfl (x_mv rfl) ?_
        refine l_x rfl (x_mv rfl) ?_
        refine l_x rfl (x_mv rfl) ?_
        refine l_call [] [] [_, _, _, _] rfl rfl Try.call93 rfl (c_rrest _ _ _ _ _ _ _ _ _ _ hV hw hp ha hy _ (hA.le S1.le) (Hwl.le S1.le) (Hp.le S1.le)) ?_
        rintro _ w9 ⟨rfl, hl11⟩
        have S10 := S1.step hl11
        refine l_x rfl (x_as rfl) ?_
        refine l_nil ?_
        refine r_seq ?_
        refine r_seq ?_
        refine r_region ?_
        refine l_x rfl (x_mv rfl) ?_
        refine l_x rfl (x_gtr rfl rfl) ?_
        refine l_nil ?_
        refine r_ifd rfl (fun hc37 => ?_) (fun hc37 => ?_)
        · skip
          refine r_region ?_
          refine l_x rfl (x_mv rfl) ?_
          refine l_x rfl (x_fieldAddr rfl Try.runUnderlying24 rfl Try.sizeOf22 (by decide)) ?_
          refine l_x rfl (x_load rfl (ld_blk (S10.blk 0 rfl) Try.isAgg22 rfl)) ?_
          refine l_x rfl (x_mv rfl) ?_
          refine l_index EA rfl (hA.le S10.le) rfl rfl Try.runUnderlying22 Try.sizeOf39 (by omega) ha ?_
          intro b12 o13 hat14 row15
          refine l_x rfl (x_fieldAddr rfl Try.runUnderlying39 rfl Try.sizeOf3 (by decide)) ?_
          refine l_x rfl (x_load rfl (ld_cell Try.isAgg3 (row15 5 _ rfl))) ?_
          refine l_call [] [] [_, _] rfl rfl Try.call82 rfl (c_rput0 _ _ _ _ rfl (by omega) (by have := told_len (p := p) (arcs.take i) (wl.take i); have := recs_len (told p (arcs.take i) (wl.take i)); rw [List.length_take] at *; omega) _ (S10.lend 1 rfl)) ?_
          intro v16 w17 hl19
          have S18 := S10.back 1 rfl hl19
          refine l_x rfl (x_as rfl) ?_
          refine l_nil ?_
          refine r_seq ?_
          refine r_region ?_
          refine l_x rfl (x_mv rfl) ?_
          refine l_x rfl (x_lss rfl rfl) ?_
          refine l_x rfl (x_mv rfl) ?_
          refine l_splitd (d := 48) rfl (fun hg48 => ?_) (fun hg48 => ?_)
          · omega
          · skip
            refine l_pass rfl ?_
            refine l_pass rfl ?_
            refine l_pass rfl ?_
            refine l_pass rfl ?_
            refine l_pass rfl ?_
            refine l_pass rfl ?_
            refine l_pass rfl ?_
            refine l_x rfl (x_pick_f rfl rfl) ?_
            refine l_nil ?_
            refine r_false rfl ?_
            refine r_skip ?_
            refine r_inBlock ?_
            refine r_region ?_
            refine l_x rfl (x_mv rfl) ?_
            refine l_x rfl (x_add rfl rfl (by omega)) ?_
            refine l_x rfl (x_as rfl) ?_
            refine l_nil ?_
            exact IH (i + 1, v16) _ _ (by dsimp only; omega) ⟨rfl, rfl, rfl, rfl, rfl, trivial⟩ ⟨by omega, (Own.recast S18 (rec_hi ha hy hc37))⟩
        · skip
          refine r_skip ?_
          refine r_seq ?_
          refine r_region ?_
          refine l_x rfl (x_mv rfl) ?_
          refine l_x rfl (x_lss rfl rfl) ?_
          refine l_x rfl (x_mv rfl) ?_
          refine l_splitd (d := 48) rfl (fun hg48 => ?_) (fun hg48 => ?_)
          · skip
            refine l_x rfl (x_fieldAddr rfl Try.runUnderlying24 rfl Try.sizeOf22 (by decide)) ?_
            refine l_x rfl (x_load rfl (ld_blk (S10.blk 0 rfl) Try.isAgg22 rfl)) ?_
            refine l_x rfl (x_mv rfl) ?_
            refine l_index EA rfl (hA.le S10.le) rfl rfl Try.runUnderlying22 Try.sizeOf39 (by omega) ha ?_
            intro b20 o21 hat22 row23
            refine l_x rfl (x_fieldAddr rfl Try.runUnderlying39 rfl Try.sizeOf3 (by decide)) ?_
            refine l_x rfl (x_load rfl (ld_cell Try.isAgg3 (row23 2 _ rfl))) ?_
            refine l_x rfl (x_gtr rfl rfl) ?_
            refine l_x rfl (x_pick_t rfl rfl) ?_
            refine l_nil ?_
            refine r_ifd rfl (fun hc56 => ?_) (fun hc56 => ?_)
            · skip
              refine r_region ?_
              refine l_x rfl (x_mv rfl) ?_
              refine l_x rfl (x_fieldAddr rfl Try.runUnderlying24 rfl Try.sizeOf22 (by decide)) ?_
              refine l_x rfl (x_load rfl (ld_blk (S10.blk 0 rfl) Try.isAgg22 rfl)) ?_
              refine l_x rfl (x_mv rfl) ?_
              refine l_index EA rfl (hA.le S10.le) rfl rfl Try.runUnderlying22 Try.sizeOf39 (by omega) ha ?_
              intro b24 o25 hat26 row27
              refine l_x rfl (x_fieldAddr rfl Try.runUnderlying39 rfl Try.sizeOf3 (by decide)) ?_
              refine l_x rfl (x_load rfl (ld_cell Try.isAgg3 (row27 4 _ rfl))) ?_
              refine l_call [] [] [_, _] rfl rfl Try.call82 rfl (c_rput0 _ _ _ _ rfl (by omega) (by have := told_len (p := p) (arcs.take i) (wl.take i); have := recs_len (told p (arcs.take i) (wl.take i)); rw [List.length_take] at *; omega) _ (S10.lend 1 rfl)) ?_
              intro v28 w29 hl31
              have S30 := S10.back 1 rfl hl31
              refine l_x rfl (x_as rfl) ?_
              refine l_nil ?_
              refine r_inBlock ?_
              refine r_region ?_
              refine l_x rfl (x_mv rfl) ?_
              refine l_x rfl (x_add rfl rfl (by omega)) ?_
              refine l_x rfl (x_as rfl) ?_
              refine l_nil ?_
              exact IH (i + 1, v28) _ _ (by dsimp only; omega) ⟨rfl, rfl, rfl, rfl, rfl, trivial⟩ ⟨by omega, (Own.recast S30 (rec_lo ha hy hg48 hc56))⟩
            · skip
              refine r_skip ?_
              refine r_inBlock ?_
              refine r_region ?_
              refine l_x rfl (x_mv rfl) ?_
              refine l_x rfl (x_add rfl rfl (by omega)) ?_
              refine l_x rfl (x_as rfl) ?_
              refine l_nil ?_
              exact IH (i + 1, vr) _ _ (by dsimp only; omega) ⟨rfl, rfl, rfl, rfl, rfl, trivial⟩ ⟨by omega, (Own.recast S10 (rec_lo0 ha hy hg48 hc56))⟩
          · skip
            refine l_pass rfl ?_
            refine l_pass rfl ?_
            refine l_pass rfl ?_
            refine l_pass rfl ?_
            refine l_pass rfl ?_
            refine l_pass rfl ?_
            refine l_pass rfl ?_
            refine l_x rfl (x_pick_f rfl rfl) ?_
            refine l_nil ?_
            refine r_false rfl ?_
            refine r_skip ?_
            refine r_inBlock ?_
            refine r_region ?_
            refine l_x rfl (x_mv rfl) ?_
            refine l_x rfl (x_add rfl rfl (by omega)) ?_
            refine l_x rfl (x_as rfl) ?_
            refine l_nil ?_
            exact IH (i + 1, vr) _ _ (by dsimp only; omega) ⟨rfl, rfl, rfl, rfl, rfl, trivial⟩ ⟨by omega, (Own.recast S10 (rec_no ha hy hc37 hg48))⟩
      · skip
        have hie : i = wl.length := by omega
        subst hie
        refine r_exit rfl ?_
        refine r_seq ?_
        refine r_region ?_
        refine l_x rfl (x_mv rfl) ?_
        refine l_x rfl (x_as rfl) ?_
        refine l_x rfl (x_as rfl) ?_
        refine l_nil ?_
        refine r_ret (rs := [.tmp 6, .tmp 7]) [_, _] Try.func41 rfl ⟨rfl, rfl, trivial⟩ ?_
        exact ⟨vr, congrArg (fun x => Value.tuple #[_, .int .i64 x]) (h0.symm.trans (congrArg (askd N arcs) hWE).symm), by rw [if_pos ((congrArg (askd N arcs) hWE).trans h0)]; have hS := S1.new 1 rfl; rw [List.take_length, List.take_of_length_le (by omega)] at hS; exact hS, S1.le⟩
  · skip
    have hWE : (row wl arcs.length (-1000) 1000 && row p N (-10000000) 10000000) = false := by rw [show row wl arcs.length (-1000) 1000 = false from hg16, Bool.false_and]
    refine w_pass rfl ?_
    refine w_pass rfl ?_
    refine w_pass rfl ?_
    refine w_x rfl (fun w1 h1 => x_pick_f rfl rfl) ?_
    refine wd_call [] [] [_, _] rfl rfl Try.call84 rfl (fun w1 h1 => c_rasked _ _ _ _ _ (hA.le (S2.step h1).le)) ?_
    refine w_x rfl (fun w1 h1 => x_as rfl) ?_
    refine w_nil ?_
    intro w32 hl33
    have S34 := S2.step hl33
    refine l_nil ?_
    refine r_seq ?_
    refine r_seq ?_
    refine r_region ?_
    refine l_x rfl (x_mv rfl) ?_
    refine l_x rfl (x_neq rfl rfl) ?_
    refine l_nil ?_
    refine r_ifd rfl (fun hc23 => ?_) (fun hc23 => ?_)
    · skip
      refine r_seq ?_
      refine r_region ?_
      refine l_x rfl (x_mv rfl) ?_
      refine l_x rfl (x_as rfl) ?_
      refine l_x rfl (x_as rfl) ?_
      refine l_nil ?_
      refine r_ret (rs := [.tmp 6, .tmp 7]) [_, _] Try.func41 rfl ⟨rfl, rfl, trivial⟩ ?_
      exact ⟨.slice none 0 0, congrArg (fun x => Value.tuple #[_, .int .i64 x]) (congrArg (askd N arcs) hWE).symm, by rw [if_neg (fun h => hc23 ((congrArg (askd N arcs) hWE).symm.trans h))]; exact New.nilvec .., S34.le⟩
    · exact absurd (askd_zero.1 (Decidable.not_not.1 hc23)).2 (by decide)

/-- A first number is put into no list. -/
theorem c_rputN (n : Int) (hn : 0 ≤ n) (w : World) : Cl Try.prog 82 #[.slice none 0 0, .int .i64 n] w fun v w' => New w w' (vec EI v (lst [n])) ∧ Le w w' := by
  have S0 : Own nob w w [vec EI (.slice none 0 0) []] := (Own.start (X := nob) w).nilvec (E := EI)
  refine (c_rput0 (.slice none 0 0) [] [] n lst_nil.symm hn (by simp) w (S0.lend 0 rfl)).mono fun v w' h => ?_
  have S1 : Own nob w w' [vec EI v (lst ([] ++ [n]))] := S0.back 0 rfl h
  exact ⟨S1.new 0 rfl, S1.le⟩
theorem Own.recast2 {X : Nat → Prop} {w w' : World} {v : Value} {A B C : Rsc} {a b : List Int} {M : List Rsc} (h : Own X w w' (A :: B :: vec EI v b :: C :: M)) (e : a = b) : Own X w w' [A, B, vec EI v a, C] := by subst e; exact h.take 4

set_option maxHeartbeats 2000000 in
/-- couchant/couchantref06.ObstacleRecords. -/
theorem c_rObstacleRecords (N : Int) (va : Value) (arcs : List Arc) (A : Int) (vn : Value) (ns : List Int) (hmx : ns.length ≤ 9223372036854775807) (w : World) (hA : Rd EA w va arcs) (Hn : Rd EI w vn ns) :
    Cl Try.prog 28 #[.agg #[.int .i64 N, va], .agg #[.int .i64 A, vn]] w fun v w' => ∃ s, v = .tuple #[s, .int .i64 (askd N arcs (hind N arcs A ns))] ∧ New w w' (vec EI s (if askd N arcs (hind N arcs A ns) = 0 then orec arcs A ns else [])) ∧ Le w w' := by
  refine fn_of_run (args := [_, _]) 100 Try.func28 rfl rfl rfl fun cs => ?_
  have S := Own.start (X := nob) w
  refine r_seq ?_
  refine r_region ?_
  refine l_box S rfl rfl ?_
  intro b4 w1 S2 hl3
  refine l_box S2 rfl rfl ?_
  intro b8 w5 S6 hl7
  refine l_x rfl (x_as rfl) ?_
  refine l_x rfl (x_as rfl) ?_
  refine l_nil ?_
  refine r_seq ?_
  refine r_region ?_
  refine l_x rfl (x_load rfl (ld_blks (S6.blk 0 rfl) Try.isAgg24 Try.sizeOf24 rfl rfl)) ?_
  refine l_call [] [] [_] rfl rfl Try.call37 rfl (c_rCheck _ _ _ _ (hA.le S6.le)) ?_
  rintro _ w9 ⟨rfl, hl11⟩
  have S10 := S6.step hl11
  refine l_x rfl (x_as rfl) ?_
  refine l_nil ?_
  refine r_seq ?_
  refine r_seq ?_
  refine r_region ?_
  refine l_x rfl (x_mv rfl) ?_
  refine l_x rfl (x_neq rfl rfl) ?_
  refine l_nil ?_
  refine r_ifd rfl (fun hc15 => ?_) (fun hc15 => ?_)
  · skip
    refine r_seq ?_
    refine r_region ?_
    refine l_x rfl (x_mv rfl) ?_
    refine l_x rfl (x_as rfl) ?_
    refine l_x rfl (x_as rfl) ?_
    refine l_nil ?_
    refine r_ret (rs := [.tmp 4, .tmp 5]) [_, _] Try.func28 rfl ⟨rfl, rfl, trivial⟩ ?_
    have hx : askd N arcs (hind N arcs A ns) = chk N arcs := by rw [askd, if_pos hc15]
    exact ⟨.slice none 0 0, congrArg (fun x => Value.tuple #[_, .int .i64 x]) hx.symm, by rw [hx, if_neg hc15]; exact New.nilvec .., S10.le⟩
  · skip
    have h0 := Decidable.not_not.1 hc15
    have hV := chk_zero.1 h0
    have hNx := hV.max
    have hN1 := hV.pos
    have hLx := hV.len
    refine r_skip ?_
    refine r_seq ?_
    refine r_seq ?_
    refine r_region ?_
    refine l_x rfl (x_load rfl (ld_blks (S10.blk 0 rfl) Try.isAgg24 Try.sizeOf24 rfl rfl)) ?_
    refine l_x rfl (x_load rfl (ld_blks (S10.blk 1 rfl) Try.isAgg43 Try.sizeOf43 rfl rfl)) ?_
    refine l_call [] [] [_, _] rfl rfl Try.call78 rfl (c_robstacle _ _ _ _ _ _ hV (by omega) _ (hA.le S10.le) (Hn.le S10.le)) ?_
    rintro _ w12 ⟨rfl, hl14⟩
    have S13 := S10.step hl14
    refine l_x rfl (x_not rfl) ?_
    refine l_nil ?_
    refine r_if rfl (fun hc20 => ?_) (fun hc20 => ?_)
    · skip
      refine r_seq ?_
      refine r_region ?_
      refine l_x rfl (x_as rfl) ?_
      refine l_x rfl (x_as rfl) ?_
      refine l_nil ?_
      refine r_ret (rs := [.tmp 4, .tmp 5]) [_, _] Try.func28 rfl ⟨rfl, rfl, trivial⟩ ?_
      have hx : askd N arcs (hind N arcs A ns) = 1 := by rw [askd, if_neg hc15, if_neg (by simpa using hc20)]
      exact ⟨.slice none 0 0, congrArg (fun x => Value.tuple #[_, .int .i64 x]) hx.symm, by rw [hx, if_neg (by decide)]; exact New.nilvec .., S13.le⟩
    · skip
      have hq : hind N arcs A ns = true := by simpa using hc20
      have ha0 : askd N arcs (hind N arcs A ns) = 0 := askd_zero.2 ⟨hV, hq⟩
      refine r_skip ?_
      refine r_seq ?_
      refine r_region ?_
      refine l_x rfl (x_as rfl) ?_
      have S15 := S13.nilvec (E := EI)
      refine l_nil ?_
      refine r_seq ?_
      refine r_seq ?_
      refine r_region ?_
      refine l_x rfl (x_fieldAddr rfl Try.runUnderlying43 rfl Try.sizeOf3 (by decide)) ?_
      refine l_x rfl (x_load rfl (ld_blk (S15.blk 1 rfl) Try.isAgg3 rfl)) ?_
      refine l_x rfl (x_geq rfl rfl) ?_
      refine l_nil ?_
      refine r_ifd rfl (fun hc23 => ?_) (fun hc23 => ?_)
      · skip
        obtain ⟨a, ha, hbad⟩ := hind_bad hq hc23
        have hok := hV.ok a (List.mem_of_getElem? ha)
        have hok := okArc_iff.1 hok
        have hA1 : A < arcs.length := by have := (List.getElem?_eq_some_iff.1 ha).1; omega
        refine r_seq ?_
        refine r_drawE 16 nob Try.mixed (by kernel_rfl) ?_
        intro w16 hl17
        have S18 := S15.step hl17
        refine e_exact 0 _ (by kernel_rfl) rfl rfl (by kernel_rfl) rfl (ex_x rfl (fun w1 h1 => x_mv rfl)) ?_
        refine e_exact 1 _ (by kernel_rfl) rfl rfl (by kernel_rfl) rfl (ex_x rfl (fun w1 h1 => x_fieldAddr rfl Try.runUnderlying24 rfl Try.sizeOf22 (by decide))) ?_
        refine e_exact 2 _ (by kernel_rfl) rfl rfl (by kernel_rfl) rfl (ex_x rfl (fun w1 h1 => x_load rfl (ld_blk ((S18.step h1).blk 0 rfl) Try.isAgg22 rfl))) ?_
        refine e_exact 3 _ (by kernel_rfl) rfl rfl (by kernel_rfl) rfl (ex_x rfl (fun w1 h1 => x_fieldAddr rfl Try.runUnderlying43 rfl Try.sizeOf3 (by decide))) ?_
        refine e_exact 4 _ (by kernel_rfl) rfl rfl (by kernel_rfl) rfl (ex_x rfl (fun w1 h1 => x_load rfl (ld_blk ((S18.step h1).blk 1 rfl) Try.isAgg3 rfl))) ?_
        refine e_index EA 5 (by kernel_rfl) rfl rfl (by kernel_rfl) rfl rfl (hA.le S18.le) rfl rfl Try.runUnderlying22 Try.sizeOf39 (by omega) ha ?_
        intro b19 o20 hat21
        refine e_exact 6 _ (by kernel_rfl) rfl rfl (by kernel_rfl) rfl (ex_x rfl (fun w1 h1 => x_fieldAddr rfl Try.runUnderlying39 rfl Try.sizeOf3 (by decide))) ?_
        refine e_exact 7 _ (by kernel_rfl) rfl rfl (by kernel_rfl) rfl (ex_x rfl (fun w1 h1 => x_load rfl (ld_cell Try.isAgg3 ((rd_row (hA.le (S18.step h1).le) hat21 ha) 4 _ rfl)))) ?_
        refine e_exact 9 _ (by kernel_rfl) rfl rfl (by kernel_rfl) rfl (ex_x rfl (fun w1 h1 => x_fieldAddr rfl Try.runUnderlying24 rfl Try.sizeOf22 (by decide))) ?_
        refine e_exact 10 _ (by kernel_rfl) rfl rfl (by kernel_rfl) rfl (ex_x rfl (fun w1 h1 => x_load rfl (ld_blk ((S18.step h1).blk 0 rfl) Try.isAgg22 rfl))) ?_
        refine e_exact 11 _ (by kernel_rfl) rfl rfl (by kernel_rfl) rfl (ex_x rfl (fun w1 h1 => x_fieldAddr rfl Try.runUnderlying43 rfl Try.sizeOf3 (by decide))) ?_
        refine e_exact 12 _ (by kernel_rfl) rfl rfl (by kernel_rfl) rfl (ex_x rfl (fun w1 h1 => x_load rfl (ld_blk ((S18.step h1).blk 1 rfl) Try.isAgg3 rfl))) ?_
        refine e_index EA 13 (by kernel_rfl) rfl rfl (by kernel_rfl) rfl rfl (hA.le S18.le) rfl rfl Try.runUnderlying22 Try.sizeOf39 (by omega) ha ?_
        intro b22 o23 hat24
        refine e_exact 14 _ (by kernel_rfl) rfl rfl (by kernel_rfl) rfl (ex_x rfl (fun w1 h1 => x_fieldAddr rfl Try.runUnderlying39 rfl Try.sizeOf3 (by decide))) ?_
        refine e_exact 15 _ (by kernel_rfl) rfl rfl (by kernel_rfl) rfl (ex_x rfl (fun w1 h1 => x_load rfl (ld_cell Try.isAgg3 ((rd_row (hA.le (S18.step h1).le) hat24 ha) 5 _ rfl)))) ?_
        refine e_next [8] (by kernel_rfl) (by kernel_rfl) ⟨⟨_, _, rfl, rfl, ?_⟩, trivial⟩
        refine s_callf [] [] [_, _] rfl rfl Try.call82 rfl ((c_rputN _ (by omega) _).mono ?_)
        rintro v3225 w25 ⟨hN3225, hl3225⟩
        have S26 := S18.add hl3225 hN3225
        refine ⟨.of_le hl3225, ?_⟩
        refine e_done (by kernel_rfl) ?_
        refine l_call [] [] [_, _] rfl rfl Try.call82 rfl (c_rput0 _ _ _ _ rfl (by omega) (by simp) _ (S26.lend 3 rfl)) ?_
        intro v27 w28 hl30
        have S29 := S26.back 3 rfl hl30
        refine l_x rfl (x_as rfl) ?_
        refine l_x rfl (x_as rfl) ?_
        refine l_nil ?_
        refine r_ret (rs := [.tmp 4, .tmp 5]) [_, _] Try.func28 rfl ⟨rfl, rfl, trivial⟩ ?_
        exact ⟨_, congrArg (fun x => Value.tuple #[_, .int .i64 x]) ha0.symm, by rw [if_pos ha0, orec, if_pos hc23, ha]; exact S29.new 3 rfl, S29.le⟩
      · skip
        obtain ⟨hA1, hasc, hpos⟩ := hind_cut hq hc23
        refine r_skip ?_
        refine r_seq ?_
        refine r_region ?_
        refine l_x rfl (x_load rfl (ld_blks (S15.blk 0 rfl) Try.isAgg24 Try.sizeOf24 rfl rfl)) ?_
        refine l_x rfl (x_fieldAddr rfl Try.runUnderlying43 rfl Try.sizeOf25 (by decide)) ?_
        refine l_x rfl (x_load rfl (ld_blk (S15.blk 1 rfl) Try.isAgg25 rfl)) ?_
        refine l_call [] [] [_, _] rfl rfl Try.call83 rfl (c_rinside _ _ _ _ _ hV (by omega) _ (Hn.le S15.le)) ?_
        rintro _ w31 (⟨vi4531, rfl, hN4531, hl4531, hasc⟩ | ⟨rfl, hl4531, hbad⟩)
        · skip
          have S32 := S15.add hl4531 hN4531
          refine l_x rfl (x_mv rfl) ?_
          refine l_x rfl (x_extract rfl rfl) ?_
          refine l_x rfl (x_extract rfl rfl) ?_
          refine l_x rfl (x_as rfl) ?_
          refine l_x rfl (x_as rfl) ?_
          refine l_nil ?_
          refine r_seq ?_
          refine r_seq ?_
          refine r_region ?_
          refine l_x rfl (x_as rfl) ?_
          refine l_nil ?_
          refine r_block ?_
          refine r_loop (G := Nat × Value) (fun ⟨i, vr⟩ => arcs.length - i) (fun ⟨i, vr⟩ => [(2, .pointer (some ⟨b4, 0, none⟩)), (8, vi4531), (7, vr), (10, .int .i64 i)]) (fun ⟨i, vr⟩ w' => (i ≤ arcs.length) ∧ Own nob w w' [blk b4 [.int .i64 N, va] 24, blk b8 [.int .i64 A, vn] 43, vec EI vr (lst (orecs (cutl ns (arcs.take i)))), vec EB vi4531 (mk N ns)]) (0, .slice none 0 0) ⟨rfl, rfl, rfl, rfl, trivial⟩ ⟨Nat.zero_le _, (Own.recast2 S32 lst_nil)⟩ ?_
          rintro ⟨i, vr⟩ ρ w1 ⟨hi, S1⟩ IH
          refine r_seq ?_
          refine r_seq ?_
          refine r_region ?_
          refine l_x rfl (x_mv rfl) ?_
          refine l_x rfl (x_fieldAddr rfl Try.runUnderlying24 rfl Try.sizeOf22 (by decide)) ?_
          refine l_x rfl (x_load rfl (ld_blk (S1.blk 0 rfl) Try.isAgg22 rfl)) ?_
          refine l_x rfl (x_len (hA.le S1.le) rfl Try.runUnderlying22) ?_
          refine l_x rfl (x_lss rfl rfl) ?_
          refine l_nil ?_
          refine r_ifd rfl (fun hc52 => ?_) (fun hc52 => ?_)
          · skip
            obtain ⟨a, ha⟩ : ∃ a, arcs[i]? = some a := ⟨_, List.getElem?_eq_getElem (by omega)⟩
            have hok := hV.at ha
            refine r_skip ?_
            refine r_seq ?_
            refine r_block ?_
            refine r_seq ?_
            refine r_region ?_
            refine l_x rfl (x_fieldAddr rfl Try.runUnderlying24 rfl Try.sizeOf22 (by decide)) ?_
            refine l_x rfl (x_load rfl (ld_blk (S1.blk 0 rfl) Try.isAgg22 rfl)) ?_
            refine l_x rfl (x_mv rfl) ?_
            refine l_index EA rfl (hA.le S1.le) rfl rfl Try.runUnderlying22 Try.sizeOf39 (by omega) ha ?_
            intro b33 o34 hat35 row36
            refine l_x rfl (x_load rfl (ld_row Try.isAgg39 Try.sizeOf39 rfl row36)) ?_
            refine l_alloc S1 rfl Try.zeroValue39 rfl ?_
            intro b40 w37 S38 hl39
            refine l_stores S38 4 rfl rfl rfl rfl (EA.one _) Try.sizeOf39 (by first | exact Nat.le_refl _ | simp) (splice_all rfl) ?_
            intro w41 S42 hk43
            refine l_nil ?_
            refine r_seq ?_
            refine r_seq ?_
            refine r_region ?_
            refine l_x rfl (x_mv rfl) ?_
            refine l_x rfl (x_fieldAddr rfl Try.runUnderlying39 rfl Try.sizeOf3 (by decide)) ?_
            refine l_x rfl (x_load rfl (ld_blk (S42.blk 4 rfl) Try.isAgg3 rfl)) ?_
            refine l_index EB rfl (vec_rd (S42.at 3 rfl)) rfl rfl Try.runUnderlying101 Try.sizeOf4 (by omega) (mk_get (by omega)) ?_
            intro b44 o45 hat46 row47
            refine l_x rfl (x_load rfl (ld_cell Try.isAgg4 (row47 0 _ rfl))) ?_
            refine l_x rfl (x_mv rfl) ?_
            refine l_split (d := 65) rfl (fun hg65 => ?_) (fun hg65 => ?_)
            · skip
              refine l_x rfl (x_mv rfl) ?_
              refine l_x rfl (x_fieldAddr rfl Try.runUnderlying39 rfl Try.sizeOf3 (by decide)) ?_
              refine l_x rfl (x_load rfl (ld_blk (S42.blk 4 rfl) Try.isAgg3 rfl)) ?_
              refine l_index EB rfl (vec_rd (S42.at 3 rfl)) rfl rfl Try.runUnderlying101 Try.sizeOf4 (by omega) (mk_get (by omega)) ?_
              intro b48 o49 hat50 row51
              refine l_x rfl (x_load rfl (ld_cell Try.isAgg4 (row51 0 _ rfl))) ?_
              refine l_x rfl (x_not rfl) ?_
              refine l_x rfl (x_pick_t rfl rfl) ?_
              refine l_x rfl (x_mv rfl) ?_
              refine l_split (d := 73) rfl (fun hg73 => ?_) (fun hg73 => ?_)
              · skip
                refine l_x rfl (x_fieldAddr rfl Try.runUnderlying39 rfl Try.sizeOf3 (by decide)) ?_
                refine l_x rfl (x_load rfl (ld_blk (S42.blk 4 rfl) Try.isAgg3 rfl)) ?_
                refine l_x rfl (x_gtr rfl rfl) ?_
                refine l_x rfl (x_pick_t rfl rfl) ?_
                refine l_nil ?_
                refine r_ifd rfl (fun hc77 => ?_) (fun hc77 => ?_)
                · skip
                  refine r_region ?_
                  refine l_x rfl (x_mv rfl) ?_
                  refine l_x rfl (x_fieldAddr rfl Try.runUnderlying39 rfl Try.sizeOf3 (by decide)) ?_
                  refine l_x rfl (x_load rfl (ld_blk (S42.blk 4 rfl) Try.isAgg3 rfl)) ?_
                  refine l_call [] [] [_, _] rfl rfl Try.call82 rfl (c_rput0 _ _ _ _ rfl (by omega) (by have := cutl_len ns (arcs.take i); have := orecs_len (cutl ns (arcs.take i)); rw [List.length_take] at *; omega) _ (S42.lend 2 rfl)) ?_
                  intro v52 w53 hl55
                  have S54 := S42.back 2 rfl hl55
                  refine l_x rfl (x_as rfl) ?_
                  refine l_nil ?_
                  refine r_seq ?_
                  refine r_region ?_
                  refine l_x rfl (x_mv rfl) ?_
                  refine l_x rfl (x_fieldAddr rfl Try.runUnderlying39 rfl Try.sizeOf3 (by decide)) ?_
                  refine l_x rfl (x_load rfl (ld_blk (S54.blk 4 rfl) Try.isAgg3 rfl)) ?_
                  refine l_index EB rfl (vec_rd (S54.at 3 rfl)) rfl rfl Try.runUnderlying101 Try.sizeOf4 (by omega) (mk_get (by omega)) ?_
                  intro b56 o57 hat58 row59
                  refine l_x rfl (x_load rfl (ld_cell Try.isAgg4 (row59 0 _ rfl))) ?_
                  refine l_x rfl (x_not rfl) ?_
                  refine l_x rfl (x_mv rfl) ?_
                  refine l_split (d := 88) rfl (fun hg88 => ?_) (fun hg88 => ?_)
                  · rw [hg65] at hg88; exact absurd hg88 (by decide)
                  · skip
                    refine l_pass rfl ?_
                    refine l_pass rfl ?_
                    refine l_pass rfl ?_
                    refine l_pass rfl ?_
                    refine l_pass rfl ?_
                    refine l_x rfl (x_pick_f rfl rfl) ?_
                    refine l_nil ?_
                    refine r_false rfl ?_
                    refine r_skip ?_
                    refine r_inBlock ?_
                    refine r_region ?_
                    refine l_x rfl (x_mv rfl) ?_
                    refine l_x rfl (x_add rfl rfl (by omega)) ?_
                    refine l_x rfl (x_as rfl) ?_
                    refine l_nil ?_
                    exact IH (i + 1, v52) _ _ (by dsimp only; omega) ⟨rfl, rfl, rfl, rfl, trivial⟩ ⟨by omega, (Own.recast2 S54 (oc_lo ha hg65 (by simpa using hg73) hc77))⟩
                · skip
                  refine r_skip ?_
                  refine r_seq ?_
                  refine r_region ?_
                  refine l_x rfl (x_mv rfl) ?_
                  refine l_x rfl (x_fieldAddr rfl Try.runUnderlying39 rfl Try.sizeOf3 (by decide)) ?_
                  refine l_x rfl (x_load rfl (ld_blk (S42.blk 4 rfl) Try.isAgg3 rfl)) ?_
                  refine l_index EB rfl (vec_rd (S42.at 3 rfl)) rfl rfl Try.runUnderlying101 Try.sizeOf4 (by omega) (mk_get (by omega)) ?_
                  intro b60 o61 hat62 row63
                  refine l_x rfl (x_load rfl (ld_cell Try.isAgg4 (row63 0 _ rfl))) ?_
                  refine l_x rfl (x_not rfl) ?_
                  refine l_x rfl (x_mv rfl) ?_
                  refine l_split (d := 88) rfl (fun hg88 => ?_) (fun hg88 => ?_)
                  · rw [hg65] at hg88; exact absurd hg88 (by decide)
                  · skip
                    refine l_pass rfl ?_
                    refine l_pass rfl ?_
                    refine l_pass rfl ?_
                    refine l_pass rfl ?_
                    refine l_pass rfl ?_
                    refine l_x rfl (x_pick_f rfl rfl) ?_
                    refine l_nil ?_
                    refine r_false rfl ?_
                    refine r_skip ?_
                    refine r_inBlock ?_
                    refine r_region ?_
                    refine l_x rfl (x_mv rfl) ?_
                    refine l_x rfl (x_add rfl rfl (by omega)) ?_
                    refine l_x rfl (x_as rfl) ?_
                    refine l_nil ?_
                    exact IH (i + 1, vr) _ _ (by dsimp only; omega) ⟨rfl, rfl, rfl, rfl, trivial⟩ ⟨by omega, (Own.recast2 S42 (oc_lo0 ha hg65 (by simpa using hg73) hc77))⟩
              · skip
                refine l_pass rfl ?_
                refine l_pass rfl ?_
                refine l_pass rfl ?_
                refine l_x rfl (x_pick_f rfl rfl) ?_
                refine l_nil ?_
                refine r_false rfl ?_
                refine r_skip ?_
                refine r_seq ?_
                refine r_region ?_
                refine l_x rfl (x_mv rfl) ?_
                refine l_x rfl (x_fieldAddr rfl Try.runUnderlying39 rfl Try.sizeOf3 (by decide)) ?_
                refine l_x rfl (x_load rfl (ld_blk (S42.blk 4 rfl) Try.isAgg3 rfl)) ?_
                refine l_index EB rfl (vec_rd (S42.at 3 rfl)) rfl rfl Try.runUnderlying101 Try.sizeOf4 (by omega) (mk_get (by omega)) ?_
                intro b64 o65 hat66 row67
                refine l_x rfl (x_load rfl (ld_cell Try.isAgg4 (row67 0 _ rfl))) ?_
                refine l_x rfl (x_not rfl) ?_
                refine l_x rfl (x_mv rfl) ?_
                refine l_split (d := 88) rfl (fun hg88 => ?_) (fun hg88 => ?_)
                · rw [hg65] at hg88; exact absurd hg88 (by decide)
                · skip
                  refine l_pass rfl ?_
                  refine l_pass rfl ?_
                  refine l_pass rfl ?_
                  refine l_pass rfl ?_
                  refine l_pass rfl ?_
                  refine l_x rfl (x_pick_f rfl rfl) ?_
                  refine l_nil ?_
                  refine r_false rfl ?_
                  refine r_skip ?_
                  refine r_inBlock ?_
                  refine r_region ?_
                  refine l_x rfl (x_mv rfl) ?_
                  refine l_x rfl (x_add rfl rfl (by omega)) ?_
                  refine l_x rfl (x_as rfl) ?_
                  refine l_nil ?_
                  exact IH (i + 1, vr) _ _ (by dsimp only; omega) ⟨rfl, rfl, rfl, rfl, trivial⟩ ⟨by omega, (Own.recast2 S42 (oc_no ha hg65 (by simpa using hg73) rfl))⟩
            · skip
              refine l_pass rfl ?_
              refine l_pass rfl ?_
              refine l_pass rfl ?_
              refine l_pass rfl ?_
              refine l_pass rfl ?_
              refine l_pass rfl ?_
              refine l_x rfl (x_pick_f rfl rfl) ?_
              refine l_x rfl (x_mv rfl) ?_
              refine l_pass rfl ?_
              refine l_pass rfl ?_
              refine l_pass rfl ?_
              refine l_x rfl (x_pick_f rfl rfl) ?_
              refine l_nil ?_
              refine r_false rfl ?_
              refine r_skip ?_
              refine r_seq ?_
              refine r_region ?_
              refine l_x rfl (x_mv rfl) ?_
              refine l_x rfl (x_fieldAddr rfl Try.runUnderlying39 rfl Try.sizeOf3 (by decide)) ?_
              refine l_x rfl (x_load rfl (ld_blk (S42.blk 4 rfl) Try.isAgg3 rfl)) ?_
              refine l_index EB rfl (vec_rd (S42.at 3 rfl)) rfl rfl Try.runUnderlying101 Try.sizeOf4 (by omega) (mk_get (by omega)) ?_
              intro b68 o69 hat70 row71
              refine l_x rfl (x_load rfl (ld_cell Try.isAgg4 (row71 0 _ rfl))) ?_
              refine l_x rfl (x_not rfl) ?_
              refine l_x rfl (x_mv rfl) ?_
              refine l_split (d := 88) rfl (fun hg88 => ?_) (fun hg88 => ?_)
              · skip
                refine l_x rfl (x_mv rfl) ?_
                refine l_x rfl (x_fieldAddr rfl Try.runUnderlying39 rfl Try.sizeOf3 (by decide)) ?_
                refine l_x rfl (x_load rfl (ld_blk (S42.blk 4 rfl) Try.isAgg3 rfl)) ?_
                refine l_index EB rfl (vec_rd (S42.at 3 rfl)) rfl rfl Try.runUnderlying101 Try.sizeOf4 (by omega) (mk_get (by omega)) ?_
                intro b72 o73 hat74 row75
                refine l_x rfl (x_load rfl (ld_cell Try.isAgg4 (row75 0 _ rfl))) ?_
                refine l_x rfl (x_pick_t rfl rfl) ?_
                refine l_nil ?_
                refine r_if rfl (fun hc94 => ?_) (fun hc94 => ?_)
                · skip
                  refine r_region ?_
                  refine l_x rfl (x_mv rfl) ?_
                  refine l_x rfl (x_fieldAddr rfl Try.runUnderlying39 rfl Try.sizeOf3 (by decide)) ?_
                  refine l_x rfl (x_load rfl (ld_blk (S42.blk 4 rfl) Try.isAgg3 rfl)) ?_
                  refine l_call [] [] [_, _] rfl rfl Try.call82 rfl (c_rput0 _ _ _ _ rfl (by omega) (by have := cutl_len ns (arcs.take i); have := orecs_len (cutl ns (arcs.take i)); rw [List.length_take] at *; omega) _ (S42.lend 2 rfl)) ?_
                  intro v76 w77 hl79
                  have S78 := S42.back 2 rfl hl79
                  refine l_x rfl (x_as rfl) ?_
                  refine l_nil ?_
                  refine r_inBlock ?_
                  refine r_region ?_
                  refine l_x rfl (x_mv rfl) ?_
                  refine l_x rfl (x_add rfl rfl (by omega)) ?_
                  refine l_x rfl (x_as rfl) ?_
                  refine l_nil ?_
                  exact IH (i + 1, v76) _ _ (by dsimp only; omega) ⟨rfl, rfl, rfl, rfl, trivial⟩ ⟨by omega, (Own.recast2 S78 (oc_hi ha hg65 hc94))⟩
                · skip
                  refine r_skip ?_
                  refine r_inBlock ?_
                  refine r_region ?_
                  refine l_x rfl (x_mv rfl) ?_
                  refine l_x rfl (x_add rfl rfl (by omega)) ?_
                  refine l_x rfl (x_as rfl) ?_
                  refine l_nil ?_
                  exact IH (i + 1, vr) _ _ (by dsimp only; omega) ⟨rfl, rfl, rfl, rfl, trivial⟩ ⟨by omega, (Own.recast2 S42 (oc_no ha hg65 (by simpa using hc94) rfl))⟩
              · rw [hg65] at hg88; exact absurd hg88 (by decide)
          · skip
            have hie : i = arcs.length := by omega
            subst hie
            refine r_exit rfl ?_
            refine r_seq ?_
            refine r_region ?_
            refine l_x rfl (x_mv rfl) ?_
            refine l_x rfl (x_as rfl) ?_
            refine l_x rfl (x_as rfl) ?_
            refine l_nil ?_
            refine r_ret (rs := [.tmp 4, .tmp 5]) [_, _] Try.func28 rfl ⟨rfl, rfl, trivial⟩ ?_
            exact ⟨vr, congrArg (fun x => Value.tuple #[_, .int .i64 x]) ha0.symm, by rw [if_pos ha0, orec, if_neg hc23]; have hS := S1.new 2 rfl; rw [List.take_length] at hS; exact hS, S1.le⟩
        · exact absurd (hasc.symm.trans hbad) (by decide)

end Go.Proofs

/-
  Contracts of functions of the program: each by symbolic execution of its text.
-/
namespace Go.Proofs
open Go Go.Vk Go.Vk.Flow

theorem ifnet_bad {N E e : Int} (h : E = e) (he : ¬ e = 0) : Value.tuple #[.agg #[.int .i64 0, .slice none 0 0], .int .i64 e] = .tuple #[.agg #[.int .i64 (if E = 0 then N else 0), .slice none 0 0], .int .i64 E] := by subst h; rw [if_neg he]
theorem ifnet_ok {N E : Int} {vh : Value} (h : E = 0) : Value.tuple #[.agg #[.int .i64 N, vh], .int .i64 0] = .tuple #[.agg #[.int .i64 (if E = 0 then N else 0), vh], .int .i64 E] := by rw [if_pos h, h]
theorem newif_bad {w w' : World} {E e : Int} {l : List Arc} (h : E = e) (he : ¬ e = 0) : New w w' (vec EA (.slice none 0 0) (if E = 0 then l else [])) := by subst h; rw [if_neg he]; exact New.nilvec ..
theorem newif_ok {w w' : World} {E : Int} {l l' : List Arc} {vh : Value} (h : E = 0) (e : l' = l) (hN : New w w' (vec EA vh l')) : New w w' (vec EA vh (if E = 0 then l else [])) := by subst e; rw [if_pos h]; exact hN

/-- couchant/couchantref06.copied. -/
theorem c_rcopied (N : Int) (va : Value) (arcs : List Arc) (hm : arcs.length ≤ 100000) (w : World) (hA : Rd EA w va arcs) :
    Cl Try.prog 104 #[.agg #[.int .i64 N, va]] w fun v w' => ∃ vh, v = .agg #[.int .i64 N, vh] ∧ New w w' (vec EA vh arcs) ∧ Le w w' := by
  refine fn_of_run (args := [_]) 10 Try.func104 rfl rfl rfl fun cs => ?_
  have S := Own.start (X := nob) w
  refine r_seq ?_
  refine r_region ?_
  refine l_box S rfl rfl ?_
  intro b4 w1 S2 hl3
  refine l_alloc S2 rfl Try.zeroValue24 rfl ?_
  intro b8 w5 S6 hl7
  refine l_nil ?_
  refine r_seq ?_
  refine r_drawE 6 (yng w5) Try.mixed (by kernel_rfl) ?_
  intro w9 hl10
  have S11 := S6.step hl10
  have hy12 : Keep (yng w5) w5 w9 := .of_le hl10
  refine e_exact 0 _ (by kernel_rfl) rfl rfl (by kernel_rfl) rfl (ex_x rfl (fun w1 h1 => x_fieldAddr rfl Try.runUnderlying24 rfl Try.sizeOf3 (by decide))) ?_
  refine e_exact 1 _ (by kernel_rfl) rfl rfl (by kernel_rfl) rfl (ex_x rfl (fun w1 h1 => x_load rfl (ld_blk ((S6.yng (hy12.trans h1)).blk 0 rfl) Try.isAgg3 rfl))) ?_
  refine e_exact 3 _ (by kernel_rfl) rfl rfl (by kernel_rfl) rfl (ex_x rfl (fun w1 h1 => x_fieldAddr rfl Try.runUnderlying24 rfl Try.sizeOf22 (by decide))) ?_
  refine e_exact 4 _ (by kernel_rfl) rfl rfl (by kernel_rfl) rfl (ex_x rfl (fun w1 h1 => x_load rfl (ld_blk ((S6.yng (hy12.trans h1)).blk 0 rfl) Try.isAgg22 rfl))) ?_
  refine e_next [2] (by kernel_rfl) (by kernel_rfl) ⟨⟨_, _, rfl, rfl, ?_⟩, trivial⟩
  refine s_buildSlice EA [] (Own.start (X := nob) w9) rfl Try.runUnderlying22 Try.sizeOf39 Try.zeroValue39 rfl trivial (by decide) ?_
  intro v17 w13 S14 hl16
  have hn18 := S14.new 0 rfl
  have S15 := S11.add hl16 hn18
  refine ⟨.of_le hl16, ?_⟩
  have hy19 : Keep (yng w5) w5 w13 := hy12.trans (Keep.of_le hl16)
  refine e_next [5] (by kernel_rfl) (by kernel_rfl) ⟨⟨_, _, rfl, rfl, ?_⟩, trivial⟩
  refine s_append EA (S15.lend 2 rfl) 0 rfl rfl rfl rfl (hA.le S15.le) Try.underlying22 info39 rfl rfl rfl (by unfold maxLen; rw [List.length_nil]; omega) (by show _ * 48 ≤ _; rw [List.length_nil]; omega) ?_
  intro v24 w20 S21 hk23 hv25
  have S22 := S15.back 2 rfl S21
  refine ⟨hk23.mono (fun c _ hc => Nat.le_trans hy12.size (hn18.bd c hc).1), ?_⟩
  have hy26 : Keep (yng w5) w5 w20 := hy19.trans (hk23.mono (fun c _ hc => Nat.le_trans hy12.size (hn18.bd c hc).1))
  refine e_done (by kernel_rfl) ?_
  refine l_x rfl (x_buildS (out := [_, _]) (ss := [1, 1]) Try.zeroValue24 rfl Try.runUnderlying24 ⟨Try.sizeOf3, Try.sizeOf22, trivial⟩ (fill_cons rfl rfl rfl (Nat.le_of_ble_eq_true rfl) (fill_cons rfl (Rd.cells (vec_rd (S22.at 2 rfl))) rfl (Nat.le_of_ble_eq_true rfl) fill_nil))) ?_
  refine l_stores (vs := [_, _]) S22 1 rfl rfl rfl rfl (ones_cons rfl (ones_cons (Rd.one (vec_rd (S22.at 2 rfl))) ones_nil)) Try.sizeOf24 (by first | exact Nat.le_refl _ | simp) (splice_all rfl) ?_
  intro w27 S28 hk29
  refine l_nil ?_
  refine r_ret (rs := [.cell 2 24]) [_] Try.func104 rfl ⟨⟨_, rfl, (ld_blks (S28.blk 1 rfl) Try.isAgg24 Try.sizeOf24 rfl rfl)⟩, trivial⟩ ?_
  exact ⟨_, rfl, by have hS := S28.new 2 rfl; rw [List.nil_append] at hS; exact hS, S28.le⟩

section
variable {N i lo hi r : Int} {arcs : List Arc}
theorem narE_bad (h : ¬ ((0 ≤ i ∧ i < arcs.length) ∧ (0 ≤ lo ∧ lo ≤ 1000000) ∧ (0 ≤ hi ∧ hi ≤ 1000000) ∧ (0 ≤ r ∧ r ≤ 1000000))) : narE N arcs i lo hi r = askd N arcs false := by
  refine congrArg (askd N arcs) (Bool.eq_false_iff.2 fun hh => h ?_)
  simp only [inb, rg, Bool.and_eq_true, decide_eq_true_eq] at hh
  omega
theorem narE_dec (h : (0 ≤ i ∧ i < arcs.length) ∧ (0 ≤ lo ∧ lo ≤ 1000000) ∧ (0 ≤ hi ∧ hi ≤ 1000000) ∧ 0 ≤ r) : narE N arcs i lo hi r = askd N arcs (decide (r ≤ 1000000)) := by
  refine congrArg (askd N arcs) ?_
  rw [Bool.eq_iff_iff]
  simp only [inb, rg, Bool.and_eq_true, decide_eq_true_eq]
  omega
end

set_option maxHeartbeats 4000000 in
/-- couchant/couchantref06.Narrow. -/
theorem c_rNarrow (N : Int) (va : Value) (arcs : List Arc) (i lo hi r : Int) (w : World) (hA : Rd EA w va arcs) :
    Cl Try.prog 49 #[.agg #[.int .i64 N, va], .int .i64 i, .int .i64 lo, .int .i64 hi, .int .i64 r] w fun v w' => ∃ vh, v = .tuple #[.agg #[.int .i64 (if narE N arcs i lo hi r = 0 then N else 0), vh], .int .i64 (narE N arcs i lo hi r)] ∧ New w w' (vec EA vh (if narE N arcs i lo hi r = 0 then nar arcs i.toNat lo hi r else [])) ∧ Le w w' := by
  refine fn_of_run (args := [_, _, _, _, _]) 98 Try.func49 rfl rfl rfl fun cs => ?_
  have S := Own.start (X := nob) w
  refine r_seq ?_
  refine r_region ?_
  refine l_box S rfl rfl ?_
  intro b4 w1 S2 hl3
  refine l_alloc S2 rfl Try.zeroValue24 rfl ?_
  intro b8 w5 S6 hl7
  refine l_x rfl (x_as rfl) ?_
  refine l_nil ?_
  refine r_seq ?_
  refine r_region ?_
  refine l_x rfl (x_mv rfl) ?_
  refine l_x rfl (x_geq rfl rfl) ?_
  refine l_x rfl (x_mv rfl) ?_
  refine l_splitd (d := 17) rfl (fun hg17 => ?_) (fun hg17 => ?_)
  · skip
    refine l_x rfl (x_mv rfl) ?_
    refine l_x rfl (x_fieldAddr rfl Try.runUnderlying24 rfl Try.sizeOf22 (by decide)) ?_
    refine l_x rfl (x_load rfl (ld_blk (S6.blk 0 rfl) Try.isAgg22 rfl)) ?_
    refine l_x rfl (x_len (hA.le S6.le) rfl Try.runUnderlying22) ?_
    refine l_x rfl (x_lss rfl rfl) ?_
    refine l_x rfl (x_pick_t rfl rfl) ?_
    refine l_x rfl (x_mv rfl) ?_
    refine l_splitd (d := 24) rfl (fun hg24 => ?_) (fun hg24 => ?_)
    · skip
      refine l_x rfl (x_mv rfl) ?_
      refine l_x rfl (x_geq rfl rfl) ?_
      refine l_x rfl (x_pick_t rfl rfl) ?_
      refine l_x rfl (x_mv rfl) ?_
      refine l_splitd (d := 28) rfl (fun hg28 => ?_) (fun hg28 => ?_)
      · skip
        refine l_x rfl (x_mv rfl) ?_
        refine l_x rfl (x_leq rfl rfl) ?_
        refine l_x rfl (x_pick_t rfl rfl) ?_
        refine l_x rfl (x_mv rfl) ?_
        refine l_splitd (d := 32) rfl (fun hg32 => ?_) (fun hg32 => ?_)
        · skip
          refine l_x rfl (x_mv rfl) ?_
          refine l_x rfl (x_geq rfl rfl) ?_
          refine l_x rfl (x_pick_t rfl rfl) ?_
          refine l_x rfl (x_mv rfl) ?_
          refine l_splitd (d := 36) rfl (fun hg36 => ?_) (fun hg36 => ?_)
          · skip
            refine l_x rfl (x_mv rfl) ?_
            refine l_x rfl (x_leq rfl rfl) ?_
            refine l_x rfl (x_pick_t rfl rfl) ?_
            refine l_x rfl (x_mv rfl) ?_
            refine l_splitd (d := 40) rfl (fun hg40 => ?_) (fun hg40 => ?_)
            · skip
              refine l_x rfl (x_mv rfl) ?_
              refine l_x rfl (x_geq rfl rfl) ?_
              refine l_x rfl (x_pick_t rfl rfl) ?_
              refine l_x rfl (x_mv rfl) ?_
              refine l_splitd (d := 44) rfl (fun hg44 => ?_) (fun hg44 => ?_)
              · skip
                refine l_x rfl (x_mv rfl) ?_
                refine l_x rfl (x_leq rfl rfl) ?_
                refine l_x rfl (x_pick_t rfl rfl) ?_
                refine l_x rfl (x_as rfl) ?_
                refine l_nil ?_
                refine r_seq ?_
                have S9 := S6.pick (L' := [_, _]) [0, 1] (by decide) rfl
                refine r_forget [(1, .int .i64 i), (2, .int .i64 lo), (3, .int .i64 hi), (4, .int .i64 r), (5, .pointer (some ⟨b4, 0, none⟩)), (10, .pointer (some ⟨b8, 0, none⟩)), (12, .bool (decide (r ≤ 1000000)))] ⟨rfl, rfl, rfl, rfl, rfl, rfl, rfl, trivial⟩ ?_
                intro ρ10
                refine r_region ?_
                refine l_x rfl (x_load rfl (ld_blks (S9.blk 0 rfl) Try.isAgg24 Try.sizeOf24 rfl rfl)) ?_
                refine l_x rfl (x_mv rfl) ?_
                refine l_call [] [] [_, _] rfl rfl Try.call84 rfl (c_rasked _ _ _ _ _ (hA.le S9.le)) ?_
                rintro _ w11 ⟨rfl, hl13⟩
                have S12 := S9.step hl13
                refine l_x rfl (x_as rfl) ?_
                refine l_nil ?_
                refine r_seq ?_
                refine r_seq ?_
                have hWE : narE N arcs i lo hi r = askd N arcs (decide (r ≤ 1000000)) := narE_dec (by omega)
                refine r_region ?_
                refine l_x rfl (x_mv rfl) ?_
                refine l_x rfl (x_neq rfl rfl) ?_
                refine l_nil ?_
                refine r_ifd rfl (fun hc52 => ?_) (fun hc52 => ?_)
                · skip
                  refine r_seq ?_
                  refine r_region ?_
                  refine l_x rfl (x_buildS (out := [_, _]) (ss := [1, 1]) Try.zeroValue24 rfl Try.runUnderlying24 ⟨Try.sizeOf3, Try.sizeOf22, trivial⟩ fill_nil) ?_
                  refine l_x rfl (x_mv rfl) ?_
                  refine l_stores (vs := [_, _]) S12 1 rfl rfl rfl rfl (ones_cons rfl (ones_cons rfl ones_nil)) Try.sizeOf24 (by first | exact Nat.le_refl _ | simp) (splice_all rfl) ?_
                  intro w14 S15 hk16
                  refine l_x rfl (x_as rfl) ?_
                  refine l_nil ?_
                  refine r_ret (rs := [.cell 10 24, .tmp 11]) [_, _] Try.func49 rfl ⟨⟨_, rfl, (ld_blks (S15.blk 1 rfl) Try.isAgg24 Try.sizeOf24 rfl rfl)⟩, rfl, trivial⟩ ?_
                  exact ⟨.slice none 0 0, ifnet_bad hWE hc52, newif_bad hWE hc52, S15.le⟩
                · skip
                  have h0 : narE N arcs i lo hi r = 0 := hWE.trans (Decidable.not_not.1 hc52)
                  obtain ⟨hV, hi0, hl0, hh0, hr0⟩ := narE_zero.1 h0
                  have hLx := hV.len
                  obtain ⟨a, ha0⟩ : ∃ a, arcs[i.toNat]? = some a := ⟨_, List.getElem?_eq_getElem (by omega)⟩
                  have hcur := ha0
                  refine r_skip ?_
                  refine r_seq ?_
                  refine r_region ?_
                  refine l_x rfl (x_load rfl (ld_blks (S12.blk 0 rfl) Try.isAgg24 Try.sizeOf24 rfl rfl)) ?_
                  refine l_call [] [] [_] rfl rfl Try.call104 rfl (c_rcopied _ _ _ (by omega) _ (hA.le S12.le)) ?_
                  rintro _ w17 ⟨vh5617, rfl, hN5617, hl5617⟩
                  have S18 := S12.add hl5617 hN5617
                  refine l_alloc S18 rfl Try.zeroValue24 rfl ?_
                  intro b22 w19 S20 hl21
                  refine l_stores (vs := [_, _]) S20 3 rfl rfl rfl rfl (ones_cons rfl (ones_cons (Rd.one (vec_rd (S20.at 2 rfl))) ones_nil)) Try.sizeOf24 (by first | exact Nat.le_refl _ | simp) (splice_all rfl) ?_
                  intro w23 S24 hk25
                  refine l_nil ?_
                  refine r_seq ?_
                  refine r_seq ?_
                  have S26 := S24.pick (L' := [_, _, _, _]) [0, 1, 2, 3] (by decide) rfl
                  refine r_forget [(1, .int .i64 i), (2, .int .i64 lo), (3, .int .i64 hi), (4, .int .i64 r), (5, .pointer (some ⟨b4, 0, none⟩)), (10, .pointer (some ⟨b8, 0, none⟩)), (14, .pointer (some ⟨b22, 0, none⟩))] ⟨rfl, rfl, rfl, rfl, rfl, rfl, rfl, trivial⟩ ?_
                  intro ρ27
                  refine r_region ?_
                  refine l_x rfl (x_mv rfl) ?_
                  refine l_x rfl (x_fieldAddr rfl Try.runUnderlying24 rfl Try.sizeOf22 (by decide)) ?_
                  refine l_x rfl (x_load rfl (ld_blk (S26.blk 3 rfl) Try.isAgg22 rfl)) ?_
                  refine l_x rfl (x_mv rfl) ?_
                  refine l_index EA rfl (vec_rd (S26.at 2 rfl)) rfl rfl Try.runUnderlying22 Try.sizeOf39 (by omega) hcur ?_
                  intro b28 o29 hat30 row31
                  refine l_x rfl (x_fieldAddr rfl Try.runUnderlying39 rfl Try.sizeOf3 (by decide)) ?_
                  refine l_x rfl (x_load rfl (ld_cell Try.isAgg3 (row31 2 _ rfl))) ?_
                  refine l_x rfl (x_gtr rfl rfl) ?_
                  refine l_nil ?_
                  refine r_ifd rfl (fun hc64 => ?_) (fun hc64 => ?_)
                  · skip
                    refine r_seq ?_
                    have hcur1 : (arcs.set i.toNat (⟨a.src, a.dst, lo, a.hi, a.loBy, a.hiBy⟩ : Arc))[i.toNat]? = some ⟨a.src, a.dst, lo, a.hi, a.loBy, a.hiBy⟩ := set_get hcur
                    have hcur2 : ((arcs.set i.toNat (⟨a.src, a.dst, lo, a.hi, a.loBy, a.hiBy⟩ : Arc)).set i.toNat (⟨a.src, a.dst, lo, a.hi, r, a.hiBy⟩ : Arc))[i.toNat]? = some ⟨a.src, a.dst, lo, a.hi, r, a.hiBy⟩ := set_get hcur1
                    refine r_region ?_
                    refine l_x rfl (x_fieldAddr rfl Try.runUnderlying24 rfl Try.sizeOf22 (by decide)) ?_
                    refine l_x rfl (x_load rfl (ld_blk (S26.blk 3 rfl) Try.isAgg22 rfl)) ?_
                    refine l_x rfl (x_mv rfl) ?_
                    refine l_x rfl (x_mv rfl) ?_
                    refine l_index EA rfl (vec_rd (S26.at 2 rfl)) rfl rfl Try.runUnderlying22 Try.sizeOf39 (by omega) hcur ?_
                    intro b32 o33 hat34 row35
                    refine l_x rfl (x_fieldAddr rfl Try.runUnderlying39 rfl Try.sizeOf3 (by decide)) ?_
                    refine l_storevi (a' := ⟨a.src, a.dst, lo, a.hi, a.loBy, a.hiBy⟩) (f := 2) S26 2 rfl rfl hat34 rfl rfl Try.sizeOf3 hcur (by decide) rfl ?_
                    intro w36 S37 hk38
                    refine l_nil ?_
                    refine r_region ?_
                    refine l_x rfl (x_fieldAddr rfl Try.runUnderlying24 rfl Try.sizeOf22 (by decide)) ?_
                    refine l_x rfl (x_load rfl (ld_blk (S37.blk 3 rfl) Try.isAgg22 rfl)) ?_
                    refine l_x rfl (x_mv rfl) ?_
                    refine l_x rfl (x_mv rfl) ?_
                    refine l_index EA rfl (vec_rd (S37.at 2 rfl)) rfl rfl Try.runUnderlying22 Try.sizeOf39 (by omega) hcur1 ?_
                    intro b39 o40 hat41 row42
                    refine l_x rfl (x_fieldAddr rfl Try.runUnderlying39 rfl Try.sizeOf3 (by decide)) ?_
                    refine l_storevi (a' := ⟨a.src, a.dst, lo, a.hi, r, a.hiBy⟩) (f := 4) S37 2 rfl rfl hat41 rfl rfl Try.sizeOf3 hcur1 (by decide) rfl ?_
                    intro w43 S44 hk45
                    refine l_nil ?_
                    refine r_seq ?_
                    refine r_seq ?_
                    have S46 := S44.pick (L' := [_, _, _, _]) [0, 1, 2, 3] (by decide) rfl
                    refine r_forget [(1, .int .i64 i), (2, .int .i64 lo), (3, .int .i64 hi), (4, .int .i64 r), (5, .pointer (some ⟨b4, 0, none⟩)), (10, .pointer (some ⟨b8, 0, none⟩)), (14, .pointer (some ⟨b22, 0, none⟩))] ⟨rfl, rfl, rfl, rfl, rfl, rfl, rfl, trivial⟩ ?_
                    intro ρ47
                    have hcur := hcur2
                    refine r_region ?_
                    refine l_x rfl (x_mv rfl) ?_
                    refine l_x rfl (x_fieldAddr rfl Try.runUnderlying24 rfl Try.sizeOf22 (by decide)) ?_
                    refine l_x rfl (x_load rfl (ld_blk (S46.blk 3 rfl) Try.isAgg22 rfl)) ?_
                    refine l_x rfl (x_mv rfl) ?_
                    refine l_index EA rfl (vec_rd (S46.at 2 rfl)) rfl rfl Try.runUnderlying22 Try.sizeOf39 (by omega) hcur ?_
                    intro b48 o49 hat50 row51
                    refine l_x rfl (x_fieldAddr rfl Try.runUnderlying39 rfl Try.sizeOf3 (by decide)) ?_
                    refine l_x rfl (x_load rfl (ld_cell Try.isAgg3 (row51 3 _ rfl))) ?_
                    refine l_x rfl (x_lss rfl rfl) ?_
                    refine l_nil ?_
                    refine r_ifd rfl (fun hc84 => ?_) (fun hc84 => ?_)
                    · skip
                      refine r_seq ?_
                      have hcur3 : (((arcs.set i.toNat (⟨a.src, a.dst, lo, a.hi, a.loBy, a.hiBy⟩ : Arc)).set i.toNat (⟨a.src, a.dst, lo, a.hi, r, a.hiBy⟩ : Arc)).set i.toNat (⟨a.src, a.dst, lo, hi, r, a.hiBy⟩ : Arc))[i.toNat]? = some ⟨a.src, a.dst, lo, hi, r, a.hiBy⟩ := set_get hcur
                      refine r_region ?_
                      refine l_x rfl (x_fieldAddr rfl Try.runUnderlying24 rfl Try.sizeOf22 (by decide)) ?_
                      refine l_x rfl (x_load rfl (ld_blk (S46.blk 3 rfl) Try.isAgg22 rfl)) ?_
                      refine l_x rfl (x_mv rfl) ?_
                      refine l_x rfl (x_mv rfl) ?_
                      refine l_index EA rfl (vec_rd (S46.at 2 rfl)) rfl rfl Try.runUnderlying22 Try.sizeOf39 (by omega) hcur ?_
                      intro b52 o53 hat54 row55
                      refine l_x rfl (x_fieldAddr rfl Try.runUnderlying39 rfl Try.sizeOf3 (by decide)) ?_
                      refine l_storevi (a' := ⟨a.src, a.dst, lo, hi, r, a.hiBy⟩) (f := 3) S46 2 rfl rfl hat54 rfl rfl Try.sizeOf3 hcur (by decide) rfl ?_
                      intro w56 S57 hk58
                      refine l_nil ?_
                      refine r_region ?_
                      refine l_x rfl (x_fieldAddr rfl Try.runUnderlying24 rfl Try.sizeOf22 (by decide)) ?_
                      refine l_x rfl (x_load rfl (ld_blk (S57.blk 3 rfl) Try.isAgg22 rfl)) ?_
                      refine l_x rfl (x_mv rfl) ?_
                      refine l_x rfl (x_mv rfl) ?_
                      refine l_index EA rfl (vec_rd (S57.at 2 rfl)) rfl rfl Try.runUnderlying22 Try.sizeOf39 (by omega) hcur3 ?_
                      intro b59 o60 hat61 row62
                      refine l_x rfl (x_fieldAddr rfl Try.runUnderlying39 rfl Try.sizeOf3 (by decide)) ?_
                      refine l_storevi (a' := ⟨a.src, a.dst, lo, hi, r, r⟩) (f := 5) S57 2 rfl rfl hat61 rfl rfl Try.sizeOf3 hcur3 (by decide) rfl ?_
                      intro w63 S64 hk65
                      refine l_nil ?_
                      refine r_seq ?_
                      refine r_region ?_
                      refine l_x rfl (x_load rfl (ld_blks (S64.blk 3 rfl) Try.isAgg24 Try.sizeOf24 rfl rfl)) ?_
                      refine l_stores (vs := [_, _]) S64 1 rfl rfl rfl rfl (ones_cons rfl (ones_cons (Rd.one (vec_rd (S64.at 2 rfl))) ones_nil)) Try.sizeOf24 (by first | exact Nat.le_refl _ | simp) (splice_all rfl) ?_
                      intro w66 S67 hk68
                      refine l_x rfl (x_as rfl) ?_
                      refine l_nil ?_
                      refine r_ret (rs := [.cell 10 24, .tmp 11]) [_, _] Try.func49 rfl ⟨⟨_, rfl, (ld_blks (S67.blk 1 rfl) Try.isAgg24 Try.sizeOf24 rfl rfl)⟩, rfl, trivial⟩ ?_
                      have hE := nar11 (lo := lo) (hi := hi) (r := r) ha0 (by omega) (by omega)
                      exact ⟨vh5617, ifnet_ok h0, newif_ok h0 hE (S67.new 2 rfl), S67.le⟩
                    · skip
                      refine r_skip ?_
                      refine r_seq ?_
                      refine r_region ?_
                      refine l_x rfl (x_load rfl (ld_blks (S46.blk 3 rfl) Try.isAgg24 Try.sizeOf24 rfl rfl)) ?_
                      refine l_stores (vs := [_, _]) S46 1 rfl rfl rfl rfl (ones_cons rfl (ones_cons (Rd.one (vec_rd (S46.at 2 rfl))) ones_nil)) Try.sizeOf24 (by first | exact Nat.le_refl _ | simp) (splice_all rfl) ?_
                      intro w69 S70 hk71
                      refine l_x rfl (x_as rfl) ?_
                      refine l_nil ?_
                      refine r_ret (rs := [.cell 10 24, .tmp 11]) [_, _] Try.func49 rfl ⟨⟨_, rfl, (ld_blks (S70.blk 1 rfl) Try.isAgg24 Try.sizeOf24 rfl rfl)⟩, rfl, trivial⟩ ?_
                      have hE := nar10 (lo := lo) (hi := hi) (r := r) ha0 (by omega) (by omega)
                      exact ⟨vh5617, ifnet_ok h0, newif_ok h0 hE (S70.new 2 rfl), S70.le⟩
                  · skip
                    refine r_skip ?_
                    refine r_seq ?_
                    refine r_seq ?_
                    have S72 := S26.pick (L' := [_, _, _, _]) [0, 1, 2, 3] (by decide) rfl
                    refine r_forget [(1, .int .i64 i), (2, .int .i64 lo), (3, .int .i64 hi), (4, .int .i64 r), (5, .pointer (some ⟨b4, 0, none⟩)), (10, .pointer (some ⟨b8, 0, none⟩)), (14, .pointer (some ⟨b22, 0, none⟩))] ⟨rfl, rfl, rfl, rfl, rfl, rfl, rfl, trivial⟩ ?_
                    intro ρ73
                    
                    refine r_region ?_
                    refine l_x rfl (x_mv rfl) ?_
                    refine l_x rfl (x_fieldAddr rfl Try.runUnderlying24 rfl Try.sizeOf22 (by decide)) ?_
                    refine l_x rfl (x_load rfl (ld_blk (S72.blk 3 rfl) Try.isAgg22 rfl)) ?_
                    refine l_x rfl (x_mv rfl) ?_
                    refine l_index EA rfl (vec_rd (S72.at 2 rfl)) rfl rfl Try.runUnderlying22 Try.sizeOf39 (by omega) hcur ?_
                    intro b74 o75 hat76 row77
                    refine l_x rfl (x_fieldAddr rfl Try.runUnderlying39 rfl Try.sizeOf3 (by decide)) ?_
                    refine l_x rfl (x_load rfl (ld_cell Try.isAgg3 (row77 3 _ rfl))) ?_
                    refine l_x rfl (x_lss rfl rfl) ?_
                    refine l_nil ?_
                    refine r_ifd rfl (fun hc84 => ?_) (fun hc84 => ?_)
                    · skip
                      refine r_seq ?_
                      have hcur3 : (arcs.set i.toNat (⟨a.src, a.dst, a.lo, hi, a.loBy, a.hiBy⟩ : Arc))[i.toNat]? = some ⟨a.src, a.dst, a.lo, hi, a.loBy, a.hiBy⟩ := set_get hcur
                      refine r_region ?_
                      refine l_x rfl (x_fieldAddr rfl Try.runUnderlying24 rfl Try.sizeOf22 (by decide)) ?_
                      refine l_x rfl (x_load rfl (ld_blk (S72.blk 3 rfl) Try.isAgg22 rfl)) ?_
                      refine l_x rfl (x_mv rfl) ?_
                      refine l_x rfl (x_mv rfl) ?_
                      refine l_index EA rfl (vec_rd (S72.at 2 rfl)) rfl rfl Try.runUnderlying22 Try.sizeOf39 (by omega) hcur ?_
                      intro b78 o79 hat80 row81
                      refine l_x rfl (x_fieldAddr rfl Try.runUnderlying39 rfl Try.sizeOf3 (by decide)) ?_
                      refine l_storevi (a' := ⟨a.src, a.dst, a.lo, hi, a.loBy, a.hiBy⟩) (f := 3) S72 2 rfl rfl hat80 rfl rfl Try.sizeOf3 hcur (by decide) rfl ?_
                      intro w82 S83 hk84
                      refine l_nil ?_
                      refine r_region ?_
                      refine l_x rfl (x_fieldAddr rfl Try.runUnderlying24 rfl Try.sizeOf22 (by decide)) ?_
                      refine l_x rfl (x_load rfl (ld_blk (S83.blk 3 rfl) Try.isAgg22 rfl)) ?_
                      refine l_x rfl (x_mv rfl) ?_
                      refine l_x rfl (x_mv rfl) ?_
                      refine l_index EA rfl (vec_rd (S83.at 2 rfl)) rfl rfl Try.runUnderlying22 Try.sizeOf39 (by omega) hcur3 ?_
                      intro b85 o86 hat87 row88
                      refine l_x rfl (x_fieldAddr rfl Try.runUnderlying39 rfl Try.sizeOf3 (by decide)) ?_
                      refine l_storevi (a' := ⟨a.src, a.dst, a.lo, hi, a.loBy, r⟩) (f := 5) S83 2 rfl rfl hat87 rfl rfl Try.sizeOf3 hcur3 (by decide) rfl ?_
                      intro w89 S90 hk91
                      refine l_nil ?_
                      refine r_seq ?_
                      refine r_region ?_
                      refine l_x rfl (x_load rfl (ld_blks (S90.blk 3 rfl) Try.isAgg24 Try.sizeOf24 rfl rfl)) ?_
                      refine l_stores (vs := [_, _]) S90 1 rfl rfl rfl rfl (ones_cons rfl (ones_cons (Rd.one (vec_rd (S90.at 2 rfl))) ones_nil)) Try.sizeOf24 (by first | exact Nat.le_refl _ | simp) (splice_all rfl) ?_
                      intro w92 S93 hk94
                      refine l_x rfl (x_as rfl) ?_
                      refine l_nil ?_
                      refine r_ret (rs := [.cell 10 24, .tmp 11]) [_, _] Try.func49 rfl ⟨⟨_, rfl, (ld_blks (S93.blk 1 rfl) Try.isAgg24 Try.sizeOf24 rfl rfl)⟩, rfl, trivial⟩ ?_
                      have hE := nar01 (lo := lo) (hi := hi) (r := r) ha0 (by omega) (by omega)
                      exact ⟨vh5617, ifnet_ok h0, newif_ok h0 hE (S93.new 2 rfl), S93.le⟩
                    · skip
                      refine r_skip ?_
                      refine r_seq ?_
                      refine r_region ?_
                      refine l_x rfl (x_load rfl (ld_blks (S72.blk 3 rfl) Try.isAgg24 Try.sizeOf24 rfl rfl)) ?_
                      refine l_stores (vs := [_, _]) S72 1 rfl rfl rfl rfl (ones_cons rfl (ones_cons (Rd.one (vec_rd (S72.at 2 rfl))) ones_nil)) Try.sizeOf24 (by first | exact Nat.le_refl _ | simp) (splice_all rfl) ?_
                      intro w95 S96 hk97
                      refine l_x rfl (x_as rfl) ?_
                      refine l_nil ?_
                      refine r_ret (rs := [.cell 10 24, .tmp 11]) [_, _] Try.func49 rfl ⟨⟨_, rfl, (ld_blks (S96.blk 1 rfl) Try.isAgg24 Try.sizeOf24 rfl rfl)⟩, rfl, trivial⟩ ?_
                      have hE := nar00 (lo := lo) (hi := hi) (r := r) ha0 (by omega) (by omega)
                      exact ⟨vh5617, ifnet_ok h0, newif_ok h0 hE (S96.new 2 rfl), S96.le⟩
              · skip
                refine l_pass rfl ?_
                refine l_pass rfl ?_
                refine l_x rfl (x_pick_f rfl rfl) ?_
                refine l_x rfl (x_as rfl) ?_
                refine l_nil ?_
                refine r_seq ?_
                have S98 := S6.pick (L' := [_, _]) [0, 1] (by decide) rfl
                refine r_forget [(1, .int .i64 i), (2, .int .i64 lo), (3, .int .i64 hi), (4, .int .i64 r), (5, .pointer (some ⟨b4, 0, none⟩)), (10, .pointer (some ⟨b8, 0, none⟩)), (12, .bool false)] ⟨rfl, rfl, rfl, rfl, rfl, rfl, rfl, trivial⟩ ?_
                intro ρ99
                refine r_region ?_
                refine l_x rfl (x_load rfl (ld_blks (S98.blk 0 rfl) Try.isAgg24 Try.sizeOf24 rfl rfl)) ?_
                refine l_x rfl (x_mv rfl) ?_
                refine l_call [] [] [_, _] rfl rfl Try.call84 rfl (c_rasked _ _ _ _ _ (hA.le S98.le)) ?_
                rintro _ w100 ⟨rfl, hl102⟩
                have S101 := S98.step hl102
                refine l_x rfl (x_as rfl) ?_
                refine l_nil ?_
                refine r_seq ?_
                refine r_seq ?_
                have hWE : narE N arcs i lo hi r = askd N arcs (false) := narE_bad (by omega)
                refine r_region ?_
                refine l_x rfl (x_mv rfl) ?_
                refine l_x rfl (x_neq rfl rfl) ?_
                refine l_nil ?_
                refine r_ifd rfl (fun hc52 => ?_) (fun hc52 => ?_)
                · skip
                  refine r_seq ?_
                  refine r_region ?_
                  refine l_x rfl (x_buildS (out := [_, _]) (ss := [1, 1]) Try.zeroValue24 rfl Try.runUnderlying24 ⟨Try.sizeOf3, Try.sizeOf22, trivial⟩ fill_nil) ?_
                  refine l_x rfl (x_mv rfl) ?_
                  refine l_stores (vs := [_, _]) S101 1 rfl rfl rfl rfl (ones_cons rfl (ones_cons rfl ones_nil)) Try.sizeOf24 (by first | exact Nat.le_refl _ | simp) (splice_all rfl) ?_
                  intro w103 S104 hk105
                  refine l_x rfl (x_as rfl) ?_
                  refine l_nil ?_
                  refine r_ret (rs := [.cell 10 24, .tmp 11]) [_, _] Try.func49 rfl ⟨⟨_, rfl, (ld_blks (S104.blk 1 rfl) Try.isAgg24 Try.sizeOf24 rfl rfl)⟩, rfl, trivial⟩ ?_
                  exact ⟨.slice none 0 0, ifnet_bad hWE hc52, newif_bad hWE hc52, S104.le⟩
                · exact absurd (askd_zero.1 (Decidable.not_not.1 hc52)).2 (by decide)
            · skip
              refine l_pass rfl ?_
              refine l_pass rfl ?_
              refine l_x rfl (x_pick_f rfl rfl) ?_
              refine l_x rfl (x_mv rfl) ?_
              refine l_pass rfl ?_
              refine l_pass rfl ?_
              refine l_x rfl (x_pick_f rfl rfl) ?_
              refine l_x rfl (x_as rfl) ?_
              refine l_nil ?_
              refine r_seq ?_
              have S106 := S6.pick (L' := [_, _]) [0, 1] (by decide) rfl
              refine r_forget [(1, .int .i64 i), (2, .int .i64 lo), (3, .int .i64 hi), (4, .int .i64 r), (5, .pointer (some ⟨b4, 0, none⟩)), (10, .pointer (some ⟨b8, 0, none⟩)), (12, .bool false)] ⟨rfl, rfl, rfl, rfl, rfl, rfl, rfl, trivial⟩ ?_
              intro ρ107
              refine r_region ?_
              refine l_x rfl (x_load rfl (ld_blks (S106.blk 0 rfl) Try.isAgg24 Try.sizeOf24 rfl rfl)) ?_
              refine l_x rfl (x_mv rfl) ?_
              refine l_call [] [] [_, _] rfl rfl Try.call84 rfl (c_rasked _ _ _ _ _ (hA.le S106.le)) ?_
              rintro _ w108 ⟨rfl, hl110⟩
              have S109 := S106.step hl110
              refine l_x rfl (x_as rfl) ?_
              refine l_nil ?_
              refine r_seq ?_
              refine r_seq ?_
              have hWE : narE N arcs i lo hi r = askd N arcs (false) := narE_bad (by omega)
              refine r_region ?_
              refine l_x rfl (x_mv rfl) ?_
              refine l_x rfl (x_neq rfl rfl) ?_
              refine l_nil ?_
              refine r_ifd rfl (fun hc52 => ?_) (fun hc52 => ?_)
              · skip
                refine r_seq ?_
                refine r_region ?_
                refine l_x rfl (x_buildS (out := [_, _]) (ss := [1, 1]) Try.zeroValue24 rfl Try.runUnderlying24 ⟨Try.sizeOf3, Try.sizeOf22, trivial⟩ fill_nil) ?_
                refine l_x rfl (x_mv rfl) ?_
                refine l_stores (vs := [_, _]) S109 1 rfl rfl rfl rfl (ones_cons rfl (ones_cons rfl ones_nil)) Try.sizeOf24 (by first | exact Nat.le_refl _ | simp) (splice_all rfl) ?_
                intro w111 S112 hk113
                refine l_x rfl (x_as rfl) ?_
                refine l_nil ?_
                refine r_ret (rs := [.cell 10 24, .tmp 11]) [_, _] Try.func49 rfl ⟨⟨_, rfl, (ld_blks (S112.blk 1 rfl) Try.isAgg24 Try.sizeOf24 rfl rfl)⟩, rfl, trivial⟩ ?_
                exact ⟨.slice none 0 0, ifnet_bad hWE hc52, newif_bad hWE hc52, S112.le⟩
              · exact absurd (askd_zero.1 (Decidable.not_not.1 hc52)).2 (by decide)
          · skip
            refine l_pass rfl ?_
            refine l_pass rfl ?_
            refine l_x rfl (x_pick_f rfl rfl) ?_
            refine l_x rfl (x_mv rfl) ?_
            refine l_pass rfl ?_
            refine l_pass rfl ?_
            refine l_x rfl (x_pick_f rfl rfl) ?_
            refine l_x rfl (x_mv rfl) ?_
            refine l_pass rfl ?_
            refine l_pass rfl ?_
            refine l_x rfl (x_pick_f rfl rfl) ?_
            refine l_x rfl (x_as rfl) ?_
            refine l_nil ?_
            refine r_seq ?_
            have S114 := S6.pick (L' := [_, _]) [0, 1] (by decide) rfl
            refine r_forget [(1, .int .i64 i), (2, .int .i64 lo), (3, .int .i64 hi), (4, .int .i64 r), (5, .pointer (some ⟨b4, 0, none⟩)), (10, .pointer (some ⟨b8, 0, none⟩)), (12, .bool false)] ⟨rfl, rfl, rfl, rfl, rfl, rfl, rfl, trivial⟩ ?_
            intro ρ115
            refine r_region ?_
            refine l_x rfl (x_load rfl (ld_blks (S114.blk 0 rfl) Try.isAgg24 Try.sizeOf24 rfl rfl)) ?_
            refine l_x rfl (x_mv rfl) ?_
            refine l_call [] [] [_, _] rfl rfl Try.call84 rfl (c_rasked _ _ _ _ _ (hA.le S114.le)) ?_
            rintro _ w116 ⟨rfl, hl118⟩
            have S117 := S114.step hl118
            refine l_x rfl (x_as rfl) ?_
            refine l_nil ?_
            refine r_seq ?_
            refine r_seq ?_
            have hWE : narE N arcs i lo hi r = askd N arcs (false) := narE_bad (by omega)
            refine r_region ?_
            refine l_x rfl (x_mv rfl) ?_
            refine l_x rfl (x_neq rfl rfl) ?_
            refine l_nil ?_
            refine r_ifd rfl (fun hc52 => ?_) (fun hc52 => ?_)
            · skip
              refine r_seq ?_
              refine r_region ?_
              refine l_x rfl (x_buildS (out := [_, _]) (ss := [1, 1]) Try.zeroValue24 rfl Try.runUnderlying24 ⟨Try.sizeOf3, Try.sizeOf22, trivial⟩ fill_nil) ?_
              refine l_x rfl (x_mv rfl) ?_
              refine l_stores (vs := [_, _]) S117 1 rfl rfl rfl rfl (ones_cons rfl (ones_cons rfl ones_nil)) Try.sizeOf24 (by first | exact Nat.le_refl _ | simp) (splice_all rfl) ?_
              intro w119 S120 hk121
              refine l_x rfl (x_as rfl) ?_
              refine l_nil ?_
              refine r_ret (rs := [.cell 10 24, .tmp 11]) [_, _] Try.func49 rfl ⟨⟨_, rfl, (ld_blks (S120.blk 1 rfl) Try.isAgg24 Try.sizeOf24 rfl rfl)⟩, rfl, trivial⟩ ?_
              exact ⟨.slice none 0 0, ifnet_bad hWE hc52, newif_bad hWE hc52, S120.le⟩
            · exact absurd (askd_zero.1 (Decidable.not_not.1 hc52)).2 (by decide)
        · skip
          refine l_pass rfl ?_
          refine l_pass rfl ?_
          refine l_x rfl (x_pick_f rfl rfl) ?_
          refine l_x rfl (x_mv rfl) ?_
          refine l_pass rfl ?_
          refine l_pass rfl ?_
          refine l_x rfl (x_pick_f rfl rfl) ?_
          refine l_x rfl (x_mv rfl) ?_
          refine l_pass rfl ?_
          refine l_pass rfl ?_
          refine l_x rfl (x_pick_f rfl rfl) ?_
          refine l_x rfl (x_mv rfl) ?_
          refine l_pass rfl ?_
          refine l_pass rfl ?_
          refine l_x rfl (x_pick_f rfl rfl) ?_
          refine l_x rfl (x_as rfl) ?_
          refine l_nil ?_
          refine r_seq ?_
          have S122 := S6.pick (L' := [_, _]) [0, 1] (by decide) rfl
          refine r_forget [(1, .int .i64 i), (2, .int .i64 lo), (3, .int .i64 hi), (4, .int .i64 r), (5, .pointer (some ⟨b4, 0, none⟩)), (10, .pointer (some ⟨b8, 0, none⟩)), (12, .bool false)] ⟨rfl, rfl, rfl, rfl, rfl, rfl, rfl, trivial⟩ ?_
          intro ρ123
          refine r_region ?_
          refine l_x rfl (x_load rfl (ld_blks (S122.blk 0 rfl) Try.isAgg24 Try.sizeOf24 rfl rfl)) ?_
          refine l_x rfl (x_mv rfl) ?_
          refine l_call [] [] [_, _] rfl rfl Try.call84 rfl (c_rasked _ _ _ _ _ (hA.le S122.le)) ?_
          rintro _ w124 ⟨rfl, hl126⟩
          have S125 := S122.step hl126
          refine l_x rfl (x_as rfl) ?_
          refine l_nil ?_
          refine r_seq ?_
          refine r_seq ?_
          have hWE : narE N arcs i lo hi r = askd N arcs (false) := narE_bad (by omega)
          refine r_region ?_
          refine l_x rfl (x_mv rfl) ?_
          refine l_x rfl (x_neq rfl rfl) ?_
          refine l_nil ?_
          refine r_ifd rfl (fun hc52 => ?_) (fun hc52 => ?_)
          · skip
            refine r_seq ?_
            refine r_region ?_
            refine l_x rfl (x_buildS (out := [_, _]) (ss := [1, 1]) Try.zeroValue24 rfl Try.runUnderlying24 ⟨Try.sizeOf3, Try.sizeOf22, trivial⟩ fill_nil) ?_
            refine l_x rfl (x_mv rfl) ?_
            refine l_stores (vs := [_, _]) S125 1 rfl rfl rfl rfl (ones_cons rfl (ones_cons rfl ones_nil)) Try.sizeOf24 (by first | exact Nat.le_refl _ | simp) (splice_all rfl) ?_
            intro w127 S128 hk129
            refine l_x rfl (x_as rfl) ?_
            refine l_nil ?_
            refine r_ret (rs := [.cell 10 24, .tmp 11]) [_, _] Try.func49 rfl ⟨⟨_, rfl, (ld_blks (S128.blk 1 rfl) Try.isAgg24 Try.sizeOf24 rfl rfl)⟩, rfl, trivial⟩ ?_
            exact ⟨.slice none 0 0, ifnet_bad hWE hc52, newif_bad hWE hc52, S128.le⟩
          · exact absurd (askd_zero.1 (Decidable.not_not.1 hc52)).2 (by decide)
      · skip
        refine l_pass rfl ?_
        refine l_pass rfl ?_
        refine l_x rfl (x_pick_f rfl rfl) ?_
        refine l_x rfl (x_mv rfl) ?_
        refine l_pass rfl ?_
        refine l_pass rfl ?_
        refine l_x rfl (x_pick_f rfl rfl) ?_
        refine l_x rfl (x_mv rfl) ?_
        refine l_pass rfl ?_
        refine l_pass rfl ?_
        refine l_x rfl (x_pick_f rfl rfl) ?_
        refine l_x rfl (x_mv rfl) ?_
        refine l_pass rfl ?_
        refine l_pass rfl ?_
        refine l_x rfl (x_pick_f rfl rfl) ?_
        refine l_x rfl (x_mv rfl) ?_
        refine l_pass rfl ?_
        refine l_pass rfl ?_
        refine l_x rfl (x_pick_f rfl rfl) ?_
        refine l_x rfl (x_as rfl) ?_
        refine l_nil ?_
        refine r_seq ?_
        have S130 := S6.pick (L' := [_, _]) [0, 1] (by decide) rfl
        refine r_forget [(1, .int .i64 i), (2, .int .i64 lo), (3, .int .i64 hi), (4, .int .i64 r), (5, .pointer (some ⟨b4, 0, none⟩)), (10, .pointer (some ⟨b8, 0, none⟩)), (12, .bool false)] ⟨rfl, rfl, rfl, rfl, rfl, rfl, rfl, trivial⟩ ?_
        intro ρ131
        refine r_region ?_
        refine l_x rfl (x_load rfl (ld_blks (S130.blk 0 rfl) Try.isAgg24 Try.sizeOf24 rfl rfl)) ?_
        refine l_x rfl (x_mv rfl) ?_
        refine l_call [] [] [_, _] rfl rfl Try.call84 rfl (c_rasked _ _ _ _ _ (hA.le S130.le)) ?_
        rintro _ w132 ⟨rfl, hl134⟩
        have S133 := S130.step hl134
        refine l_x rfl (x_as rfl) ?_
        refine l_nil ?_
        refine r_seq ?_
        refine r_seq ?_
        have hWE : narE N arcs i lo hi r = askd N arcs (false) := narE_bad (by omega)
        refine r_region ?_
        refine l_x rfl (x_mv rfl) ?_
        refine l_x rfl (x_neq rfl rfl) ?_
        refine l_nil ?_
        refine r_ifd rfl (fun hc52 => ?_) (fun hc52 => ?_)
        · skip
          refine r_seq ?_
          refine r_region ?_
          refine l_x rfl (x_buildS (out := [_, _]) (ss := [1, 1]) Try.zeroValue24 rfl Try.runUnderlying24 ⟨Try.sizeOf3, Try.sizeOf22, trivial⟩ fill_nil) ?_
          refine l_x rfl (x_mv rfl) ?_
          refine l_stores (vs := [_, _]) S133 1 rfl rfl rfl rfl (ones_cons rfl (ones_cons rfl ones_nil)) Try.sizeOf24 (by first | exact Nat.le_refl _ | simp) (splice_all rfl) ?_
          intro w135 S136 hk137
          refine l_x rfl (x_as rfl) ?_
          refine l_nil ?_
          refine r_ret (rs := [.cell 10 24, .tmp 11]) [_, _] Try.func49 rfl ⟨⟨_, rfl, (ld_blks (S136.blk 1 rfl) Try.isAgg24 Try.sizeOf24 rfl rfl)⟩, rfl, trivial⟩ ?_
          exact ⟨.slice none 0 0, ifnet_bad hWE hc52, newif_bad hWE hc52, S136.le⟩
        · exact absurd (askd_zero.1 (Decidable.not_not.1 hc52)).2 (by decide)
    · skip
      refine l_pass rfl ?_
      refine l_pass rfl ?_
      refine l_x rfl (x_pick_f rfl rfl) ?_
      refine l_x rfl (x_mv rfl) ?_
      refine l_pass rfl ?_
      refine l_pass rfl ?_
      refine l_x rfl (x_pick_f rfl rfl) ?_
      refine l_x rfl (x_mv rfl) ?_
      refine l_pass rfl ?_
      refine l_pass rfl ?_
      refine l_x rfl (x_pick_f rfl rfl) ?_
      refine l_x rfl (x_mv rfl) ?_
      refine l_pass rfl ?_
      refine l_pass rfl ?_
      refine l_x rfl (x_pick_f rfl rfl) ?_
      refine l_x rfl (x_mv rfl) ?_
      refine l_pass rfl ?_
      refine l_pass rfl ?_
      refine l_x rfl (x_pick_f rfl rfl) ?_
      refine l_x rfl (x_mv rfl) ?_
      refine l_pass rfl ?_
      refine l_pass rfl ?_
      refine l_x rfl (x_pick_f rfl rfl) ?_
      refine l_x rfl (x_as rfl) ?_
      refine l_nil ?_
      refine r_seq ?_
      have S138 := S6.pick (L' := [_, _]) [0, 1] (by decide) rfl
      refine r_forget [(1, .int .i64 i), (2, .int .i64 lo), (3, .int .i64 hi), (4, .int .i64 r), (5, .pointer (some ⟨b4, 0, none⟩)), (10, .pointer (some ⟨b8, 0, none⟩)), (12, .bool false)] ⟨rfl, rfl, rfl, rfl, rfl, rfl, rfl, trivial⟩ ?_
      intro ρ139
      refine r_region ?_
      refine l_x rfl (x_load rfl (ld_blks (S138.blk 0 rfl) Try.isAgg24 Try.sizeOf24 rfl rfl)) ?_
      refine l_x rfl (x_mv rfl) ?_
      refine l_call [] [] [_, _] rfl rfl Try.call84 rfl (c_rasked _ _ _ _ _ (hA.le S138.le)) ?_
      rintro _ w140 ⟨rfl, hl142⟩
      have S141 := S138.step hl142
      refine l_x rfl (x_as rfl) ?_
      refine l_nil ?_
      refine r_seq ?_
      refine r_seq ?_
      have hWE : narE N arcs i lo hi r = askd N arcs (false) := narE_bad (by omega)
      refine r_region ?_
      refine l_x rfl (x_mv rfl) ?_
      refine l_x rfl (x_neq rfl rfl) ?_
      refine l_nil ?_
      refine r_ifd rfl (fun hc52 => ?_) (fun hc52 => ?_)
      · skip
        refine r_seq ?_
        refine r_region ?_
        refine l_x rfl (x_buildS (out := [_, _]) (ss := [1, 1]) Try.zeroValue24 rfl Try.runUnderlying24 ⟨Try.sizeOf3, Try.sizeOf22, trivial⟩ fill_nil) ?_
        refine l_x rfl (x_mv rfl) ?_
        refine l_stores (vs := [_, _]) S141 1 rfl rfl rfl rfl (ones_cons rfl (ones_cons rfl ones_nil)) Try.sizeOf24 (by first | exact Nat.le_refl _ | simp) (splice_all rfl) ?_
        intro w143 S144 hk145
        refine l_x rfl (x_as rfl) ?_
        refine l_nil ?_
        refine r_ret (rs := [.cell 10 24, .tmp 11]) [_, _] Try.func49 rfl ⟨⟨_, rfl, (ld_blks (S144.blk 1 rfl) Try.isAgg24 Try.sizeOf24 rfl rfl)⟩, rfl, trivial⟩ ?_
        exact ⟨.slice none 0 0, ifnet_bad hWE hc52, newif_bad hWE hc52, S144.le⟩
      · exact absurd (askd_zero.1 (Decidable.not_not.1 hc52)).2 (by decide)
  · skip
    refine l_pass rfl ?_
    refine l_pass rfl ?_
    refine l_pass rfl ?_
    refine l_pass rfl ?_
    refine l_pass rfl ?_
    refine l_x rfl (x_pick_f rfl rfl) ?_
    refine l_x rfl (x_mv rfl) ?_
    refine l_pass rfl ?_
    refine l_pass rfl ?_
    refine l_x rfl (x_pick_f rfl rfl) ?_
    refine l_x rfl (x_mv rfl) ?_
    refine l_pass rfl ?_
    refine l_pass rfl ?_
    refine l_x rfl (x_pick_f rfl rfl) ?_
    refine l_x rfl (x_mv rfl) ?_
    refine l_pass rfl ?_
    refine l_pass rfl ?_
    refine l_x rfl (x_pick_f rfl rfl) ?_
    refine l_x rfl (x_mv rfl) ?_
    refine l_pass rfl ?_
    refine l_pass rfl ?_
    refine l_x rfl (x_pick_f rfl rfl) ?_
    refine l_x rfl (x_mv rfl) ?_
    refine l_pass rfl ?_
    refine l_pass rfl ?_
    refine l_x rfl (x_pick_f rfl rfl) ?_
    refine l_x rfl (x_mv rfl) ?_
    refine l_pass rfl ?_
    refine l_pass rfl ?_
    refine l_x rfl (x_pick_f rfl rfl) ?_
    refine l_x rfl (x_as rfl) ?_
    refine l_nil ?_
    refine r_seq ?_
    have S146 := S6.pick (L' := [_, _]) [0, 1] (by decide) rfl
    refine r_forget [(1, .int .i64 i), (2, .int .i64 lo), (3, .int .i64 hi), (4, .int .i64 r), (5, .pointer (some ⟨b4, 0, none⟩)), (10, .pointer (some ⟨b8, 0, none⟩)), (12, .bool false)] ⟨rfl, rfl, rfl, rfl, rfl, rfl, rfl, trivial⟩ ?_
    intro ρ147
    refine r_region ?_
    refine l_x rfl (x_load rfl (ld_blks (S146.blk 0 rfl) Try.isAgg24 Try.sizeOf24 rfl rfl)) ?_
    refine l_x rfl (x_mv rfl) ?_
    refine l_call [] [] [_, _] rfl rfl Try.call84 rfl (c_rasked _ _ _ _ _ (hA.le S146.le)) ?_
    rintro _ w148 ⟨rfl, hl150⟩
    have S149 := S146.step hl150
    refine l_x rfl (x_as rfl) ?_
    refine l_nil ?_
    refine r_seq ?_
    refine r_seq ?_
    have hWE : narE N arcs i lo hi r = askd N arcs (false) := narE_bad (by omega)
    refine r_region ?_
    refine l_x rfl (x_mv rfl) ?_
    refine l_x rfl (x_neq rfl rfl) ?_
    refine l_nil ?_
    refine r_ifd rfl (fun hc52 => ?_) (fun hc52 => ?_)
    · skip
      refine r_seq ?_
      refine r_region ?_
      refine l_x rfl (x_buildS (out := [_, _]) (ss := [1, 1]) Try.zeroValue24 rfl Try.runUnderlying24 ⟨Try.sizeOf3, Try.sizeOf22, trivial⟩ fill_nil) ?_
      refine l_x rfl (x_mv rfl) ?_
      refine l_stores (vs := [_, _]) S149 1 rfl rfl rfl rfl (ones_cons rfl (ones_cons rfl ones_nil)) Try.sizeOf24 (by first | exact Nat.le_refl _ | simp) (splice_all rfl) ?_
      intro w151 S152 hk153
      refine l_x rfl (x_as rfl) ?_
      refine l_nil ?_
      refine r_ret (rs := [.cell 10 24, .tmp 11]) [_, _] Try.func49 rfl ⟨⟨_, rfl, (ld_blks (S152.blk 1 rfl) Try.isAgg24 Try.sizeOf24 rfl rfl)⟩, rfl, trivial⟩ ?_
      exact ⟨.slice none 0 0, ifnet_bad hWE hc52, newif_bad hWE hc52, S152.le⟩
    · exact absurd (askd_zero.1 (Decidable.not_not.1 hc52)).2 (by decide)

section
variable {N r : Int} {arcs : List Arc}
theorem wotE_bad (h : ¬ 1 ≤ r) : wotE N arcs r = askd N arcs false := congrArg (askd N arcs) (decide_eq_false (by omega))
theorem wotE_dec (h : 1 ≤ r) : wotE N arcs r = askd N arcs (decide (r ≤ 1000000)) := congrArg (askd N arcs) (decide_eq_decide.2 (by omega))
end

set_option maxHeartbeats 4000000 in
/-- couchant/couchantref06.Without. -/
theorem c_rWithout (N : Int) (va : Value) (arcs : List Arc) (r : Int) (w : World) (hA : Rd EA w va arcs) :
    Cl Try.prog 50 #[.agg #[.int .i64 N, va], .int .i64 r] w fun v w' => ∃ vh, v = .tuple #[.agg #[.int .i64 (if wotE N arcs r = 0 then N else 0), vh], .int .i64 (wotE N arcs r)] ∧ New w w' (vec EA vh (if wotE N arcs r = 0 then wot arcs r else [])) ∧ Le w w' := by
  refine fn_of_run (args := [_, _]) 67 Try.func50 rfl rfl rfl fun cs => ?_
  have S := Own.start (X := nob) w
  refine r_seq ?_
  refine r_region ?_
  refine l_box S rfl rfl ?_
  intro b4 w1 S2 hl3
  refine l_alloc S2 rfl Try.zeroValue24 rfl ?_
  intro b8 w5 S6 hl7
  refine l_x rfl (x_as rfl) ?_
  refine l_nil ?_
  refine r_seq ?_
  refine r_region ?_
  refine l_x rfl (x_load rfl (ld_blks (S6.blk 0 rfl) Try.isAgg24 Try.sizeOf24 rfl rfl)) ?_
  refine l_x rfl (x_mv rfl) ?_
  refine l_x rfl (x_geq rfl rfl) ?_
  refine l_x rfl (x_mv rfl) ?_
  refine l_splitd (d := 12) rfl (fun hg12 => ?_) (fun hg12 => ?_)
  · skip
    refine l_x rfl (x_mv rfl) ?_
    refine l_x rfl (x_leq rfl rfl) ?_
    refine l_x rfl (x_pick_t rfl rfl) ?_
    refine l_call [] [] [_, _] rfl rfl Try.call84 rfl (c_rasked _ _ _ _ _ (hA.le S6.le)) ?_
    rintro _ w9 ⟨rfl, hl11⟩
    have S10 := S6.step hl11
    refine l_x rfl (x_as rfl) ?_
    refine l_nil ?_
    refine r_seq ?_
    refine r_seq ?_
    have hWE : wotE N arcs r = askd N arcs (decide (r ≤ 1000000)) := wotE_dec hg12
    refine r_region ?_
    refine l_x rfl (x_mv rfl) ?_
    refine l_x rfl (x_neq rfl rfl) ?_
    refine l_nil ?_
    refine r_ifd rfl (fun hc18 => ?_) (fun hc18 => ?_)
    · skip
      refine r_seq ?_
      refine r_region ?_
      refine l_x rfl (x_buildS (out := [_, _]) (ss := [1, 1]) Try.zeroValue24 rfl Try.runUnderlying24 ⟨Try.sizeOf3, Try.sizeOf22, trivial⟩ fill_nil) ?_
      refine l_x rfl (x_mv rfl) ?_
      refine l_stores (vs := [_, _]) S10 1 rfl rfl rfl rfl (ones_cons rfl (ones_cons rfl ones_nil)) Try.sizeOf24 (by first | exact Nat.le_refl _ | simp) (splice_all rfl) ?_
      intro w12 S13 hk14
      refine l_x rfl (x_as rfl) ?_
      refine l_nil ?_
      refine r_ret (rs := [.cell 4 24, .tmp 5]) [_, _] Try.func50 rfl ⟨⟨_, rfl, (ld_blks (S13.blk 1 rfl) Try.isAgg24 Try.sizeOf24 rfl rfl)⟩, rfl, trivial⟩ ?_
      exact ⟨.slice none 0 0, ifnet_bad hWE hc18, newif_bad hWE hc18, S13.le⟩
    · skip
      have h0 : wotE N arcs r = 0 := hWE.trans (Decidable.not_not.1 hc18)
      obtain ⟨hV, hr0⟩ := wotE_zero.1 h0
      have hLx := hV.len
      refine r_skip ?_
      refine r_seq ?_
      refine r_region ?_
      refine l_x rfl (x_load rfl (ld_blks (S10.blk 0 rfl) Try.isAgg24 Try.sizeOf24 rfl rfl)) ?_
      refine l_call [] [] [_] rfl rfl Try.call104 rfl (c_rcopied _ _ _ (by omega) _ (hA.le S10.le)) ?_
      rintro _ w15 ⟨vh2215, rfl, hN2215, hl2215⟩
      have S16 := S10.add hl2215 hN2215
      refine l_alloc S16 rfl Try.zeroValue24 rfl ?_
      intro b20 w17 S18 hl19
      refine l_stores (vs := [_, _]) S18 3 rfl rfl rfl rfl (ones_cons rfl (ones_cons (Rd.one (vec_rd (S18.at 2 rfl))) ones_nil)) Try.sizeOf24 (by first | exact Nat.le_refl _ | simp) (splice_all rfl) ?_
      intro w21 S22 hk23
      refine l_nil ?_
      refine r_seq ?_
      refine r_seq ?_
      have S24 := S22.pick (L' := [_, _, _, _]) [0, 1, 2, 3] (by decide) rfl
      refine r_forget [(1, .int .i64 r), (2, .pointer (some ⟨b4, 0, none⟩)), (4, .pointer (some ⟨b8, 0, none⟩)), (7, .pointer (some ⟨b20, 0, none⟩))] ⟨rfl, rfl, rfl, rfl, trivial⟩ ?_
      intro ρ25
      refine r_region ?_
      refine l_x rfl (x_as rfl) ?_
      refine l_nil ?_
      refine r_block ?_
      refine r_loop (G := Nat) (fun i => arcs.length - i) (fun i => [(1, .int .i64 r), (2, .pointer (some ⟨b4, 0, none⟩)), (4, .pointer (some ⟨b8, 0, none⟩)), (7, .pointer (some ⟨b20, 0, none⟩)), (8, .int .i64 i)]) (fun i w' => (i ≤ arcs.length) ∧ Own nob w w' [blk b4 [.int .i64 N, va] 24, blk b8 [.int .i64 0, .slice none 0 0] 24, vec EA vh2215 (prm (wot1 r) arcs i), blk b20 [.int .i64 N, vh2215] 24]) 0 ⟨rfl, rfl, rfl, rfl, rfl, trivial⟩ ⟨Nat.zero_le _, (by rw [prm_zero]; exact S24)⟩ ?_
      rintro i ρ w1 ⟨hi, S1⟩ IH
      refine r_seq ?_
      refine r_seq ?_
      have hpl := prm_length (f := wot1 r) (l := arcs) (i := i)
      refine r_region ?_
      refine l_x rfl (x_mv rfl) ?_
      refine l_x rfl (x_fieldAddr rfl Try.runUnderlying24 rfl Try.sizeOf22 (by decide)) ?_
      refine l_x rfl (x_load rfl (ld_blk (S1.blk 3 rfl) Try.isAgg22 rfl)) ?_
      refine l_x rfl (x_len (vec_rd (S1.at 2 rfl)) rfl Try.runUnderlying22) ?_
      refine l_x rfl (x_lss rfl rfl) ?_
      refine l_nil ?_
      refine r_ifd rfl (fun hc27 => ?_) (fun hc27 => ?_)
      · skip
        obtain ⟨a, ha⟩ : ∃ a, arcs[i]? = some a := ⟨_, List.getElem?_eq_getElem (by omega)⟩
        refine r_skip ?_
        refine r_seq ?_
        refine r_block ?_
        refine r_seq ?_
        refine r_seq ?_
        have hcur := prm_get (f := wot1 r) ha
        refine r_region ?_
        refine l_x rfl (x_fieldAddr rfl Try.runUnderlying24 rfl Try.sizeOf22 (by decide)) ?_
        refine l_x rfl (x_load rfl (ld_blk (S1.blk 3 rfl) Try.isAgg22 rfl)) ?_
        refine l_x rfl (x_mv rfl) ?_
        refine l_index EA rfl (vec_rd (S1.at 2 rfl)) rfl rfl Try.runUnderlying22 Try.sizeOf39 (by omega) (prm_get ha) ?_
        intro b26 o27 hat28 row29
        refine l_x rfl (x_fieldAddr rfl Try.runUnderlying39 rfl Try.sizeOf3 (by decide)) ?_
        refine l_x rfl (x_load rfl (ld_cell Try.isAgg3 (row29 4 _ rfl))) ?_
        refine l_x rfl (x_mv rfl) ?_
        refine l_x rfl (x_eql rfl rfl) ?_
        refine l_nil ?_
        refine r_ifd rfl (fun hc37 => ?_) (fun hc37 => ?_)
        · skip
          refine r_seq ?_
          refine r_region ?_
          refine l_x rfl (x_fieldAddr rfl Try.runUnderlying24 rfl Try.sizeOf22 (by decide)) ?_
          refine l_x rfl (x_load rfl (ld_blk (S1.blk 3 rfl) Try.isAgg22 rfl)) ?_
          refine l_x rfl (x_mv rfl) ?_
          refine l_index EA rfl (vec_rd (S1.at 2 rfl)) rfl rfl Try.runUnderlying22 Try.sizeOf39 (by omega) (prm_get ha) ?_
          intro b30 o31 hat32 row33
          refine l_x rfl (x_fieldAddr rfl Try.runUnderlying39 rfl Try.sizeOf3 (by decide)) ?_
          refine l_storevi (a' := ⟨a.src, a.dst, 0, a.hi, a.loBy, a.hiBy⟩) (f := 2) S1 2 rfl rfl hat32 rfl rfl Try.sizeOf3 (prm_get ha) (by decide) rfl ?_
          intro w34 S35 hk36
          refine l_nil ?_
          refine r_region ?_
          refine l_x rfl (x_fieldAddr rfl Try.runUnderlying24 rfl Try.sizeOf22 (by decide)) ?_
          refine l_x rfl (x_load rfl (ld_blk (S35.blk 3 rfl) Try.isAgg22 rfl)) ?_
          refine l_x rfl (x_mv rfl) ?_
          refine l_index EA rfl (vec_rd (S35.at 2 rfl)) rfl rfl Try.runUnderlying22 Try.sizeOf39 (by omega) (set_get (prm_get ha)) ?_
          intro b37 o38 hat39 row40
          refine l_x rfl (x_fieldAddr rfl Try.runUnderlying39 rfl Try.sizeOf3 (by decide)) ?_
          refine l_storevi (a' := ⟨a.src, a.dst, 0, a.hi, 0, a.hiBy⟩) (f := 4) S35 2 rfl rfl hat39 rfl rfl Try.sizeOf3 (set_get (prm_get ha)) (by decide) rfl ?_
          intro w41 S42 hk43
          refine l_nil ?_
          refine r_seq ?_
          have hcur : (((prm (wot1 r) arcs i).set ((i : Nat) : Int).toNat ⟨a.src, a.dst, 0, a.hi, a.loBy, a.hiBy⟩).set ((i : Nat) : Int).toNat ⟨a.src, a.dst, 0, a.hi, 0, a.hiBy⟩)[((i : Nat) : Int).toNat]? = some ⟨a.src, a.dst, 0, a.hi, 0, a.hiBy⟩ := set_get (set_get (prm_get ha))
          refine r_region ?_
          refine l_x rfl (x_fieldAddr rfl Try.runUnderlying24 rfl Try.sizeOf22 (by decide)) ?_
          refine l_x rfl (x_load rfl (ld_blk (S42.blk 3 rfl) Try.isAgg22 rfl)) ?_
          refine l_x rfl (x_mv rfl) ?_
          refine l_index EA rfl (vec_rd (S42.at 2 rfl)) rfl rfl Try.runUnderlying22 Try.sizeOf39 (by omega) hcur ?_
          intro b44 o45 hat46 row47
          refine l_x rfl (x_fieldAddr rfl Try.runUnderlying39 rfl Try.sizeOf3 (by decide)) ?_
          refine l_x rfl (x_load rfl (ld_cell Try.isAgg3 (row47 5 _ rfl))) ?_
          refine l_x rfl (x_mv rfl) ?_
          refine l_x rfl (x_eql rfl rfl) ?_
          refine l_nil ?_
          refine r_ifd rfl (fun hc55 => ?_) (fun hc55 => ?_)
          · skip
            refine r_seq ?_
            refine r_region ?_
            refine l_x rfl (x_fieldAddr rfl Try.runUnderlying24 rfl Try.sizeOf22 (by decide)) ?_
            refine l_x rfl (x_load rfl (ld_blk (S42.blk 3 rfl) Try.isAgg22 rfl)) ?_
            refine l_x rfl (x_mv rfl) ?_
            refine l_index EA rfl (vec_rd (S42.at 2 rfl)) rfl rfl Try.runUnderlying22 Try.sizeOf39 (by omega) hcur ?_
            intro b48 o49 hat50 row51
            refine l_x rfl (x_fieldAddr rfl Try.runUnderlying39 rfl Try.sizeOf3 (by decide)) ?_
            refine l_storevi (a' := ⟨a.src, a.dst, 0, 1000000, 0, a.hiBy⟩) (f := 3) S42 2 rfl rfl hat50 rfl rfl Try.sizeOf3 hcur (by decide) rfl ?_
            intro w52 S53 hk54
            refine l_nil ?_
            refine r_region ?_
            refine l_x rfl (x_fieldAddr rfl Try.runUnderlying24 rfl Try.sizeOf22 (by decide)) ?_
            refine l_x rfl (x_load rfl (ld_blk (S53.blk 3 rfl) Try.isAgg22 rfl)) ?_
            refine l_x rfl (x_mv rfl) ?_
            refine l_index EA rfl (vec_rd (S53.at 2 rfl)) rfl rfl Try.runUnderlying22 Try.sizeOf39 (by omega) (set_get hcur) ?_
            intro b55 o56 hat57 row58
            refine l_x rfl (x_fieldAddr rfl Try.runUnderlying39 rfl Try.sizeOf3 (by decide)) ?_
            refine l_storevi (a' := ⟨a.src, a.dst, 0, 1000000, 0, 0⟩) (f := 5) S53 2 rfl rfl hat57 rfl rfl Try.sizeOf3 (set_get hcur) (by decide) rfl ?_
            intro w59 S60 hk61
            refine l_nil ?_
            refine r_inBlock ?_
            refine r_region ?_
            refine l_x rfl (x_mv rfl) ?_
            refine l_x rfl (x_add rfl rfl (by omega)) ?_
            refine l_x rfl (x_as rfl) ?_
            refine l_nil ?_
            exact IH (i + 1) _ _ (by omega) ⟨rfl, rfl, rfl, rfl, rfl, trivial⟩ ⟨by omega, (by rw [← prm_step ha, wot11 hc37 hc55]; have hS := S60.take 4; rw [List.set_set (α := Arc), List.set_set (α := Arc), List.set_set (α := Arc)] at hS; exact hS)⟩
          · skip
            refine r_skip ?_
            refine r_inBlock ?_
            refine r_region ?_
            refine l_x rfl (x_mv rfl) ?_
            refine l_x rfl (x_add rfl rfl (by omega)) ?_
            refine l_x rfl (x_as rfl) ?_
            refine l_nil ?_
            exact IH (i + 1) _ _ (by omega) ⟨rfl, rfl, rfl, rfl, rfl, trivial⟩ ⟨by omega, (by rw [← prm_step ha, wot10 hc37 hc55]; have hS := S42.take 4; rw [List.set_set (α := Arc)] at hS; exact hS)⟩
        · skip
          refine r_skip ?_
          refine r_seq ?_
          
          refine r_region ?_
          refine l_x rfl (x_fieldAddr rfl Try.runUnderlying24 rfl Try.sizeOf22 (by decide)) ?_
          refine l_x rfl (x_load rfl (ld_blk (S1.blk 3 rfl) Try.isAgg22 rfl)) ?_
          refine l_x rfl (x_mv rfl) ?_
          refine l_index EA rfl (vec_rd (S1.at 2 rfl)) rfl rfl Try.runUnderlying22 Try.sizeOf39 (by omega) hcur ?_
          intro b62 o63 hat64 row65
          refine l_x rfl (x_fieldAddr rfl Try.runUnderlying39 rfl Try.sizeOf3 (by decide)) ?_
          refine l_x rfl (x_load rfl (ld_cell Try.isAgg3 (row65 5 _ rfl))) ?_
          refine l_x rfl (x_mv rfl) ?_
          refine l_x rfl (x_eql rfl rfl) ?_
          refine l_nil ?_
          refine r_ifd rfl (fun hc55 => ?_) (fun hc55 => ?_)
          · skip
            refine r_seq ?_
            refine r_region ?_
            refine l_x rfl (x_fieldAddr rfl Try.runUnderlying24 rfl Try.sizeOf22 (by decide)) ?_
            refine l_x rfl (x_load rfl (ld_blk (S1.blk 3 rfl) Try.isAgg22 rfl)) ?_
            refine l_x rfl (x_mv rfl) ?_
            refine l_index EA rfl (vec_rd (S1.at 2 rfl)) rfl rfl Try.runUnderlying22 Try.sizeOf39 (by omega) hcur ?_
            intro b66 o67 hat68 row69
            refine l_x rfl (x_fieldAddr rfl Try.runUnderlying39 rfl Try.sizeOf3 (by decide)) ?_
            refine l_storevi (a' := ⟨a.src, a.dst, a.lo, 1000000, a.loBy, a.hiBy⟩) (f := 3) S1 2 rfl rfl hat68 rfl rfl Try.sizeOf3 hcur (by decide) rfl ?_
            intro w70 S71 hk72
            refine l_nil ?_
            refine r_region ?_
            refine l_x rfl (x_fieldAddr rfl Try.runUnderlying24 rfl Try.sizeOf22 (by decide)) ?_
            refine l_x rfl (x_load rfl (ld_blk (S71.blk 3 rfl) Try.isAgg22 rfl)) ?_
            refine l_x rfl (x_mv rfl) ?_
            refine l_index EA rfl (vec_rd (S71.at 2 rfl)) rfl rfl Try.runUnderlying22 Try.sizeOf39 (by omega) (set_get hcur) ?_
            intro b73 o74 hat75 row76
            refine l_x rfl (x_fieldAddr rfl Try.runUnderlying39 rfl Try.sizeOf3 (by decide)) ?_
            refine l_storevi (a' := ⟨a.src, a.dst, a.lo, 1000000, a.loBy, 0⟩) (f := 5) S71 2 rfl rfl hat75 rfl rfl Try.sizeOf3 (set_get hcur) (by decide) rfl ?_
            intro w77 S78 hk79
            refine l_nil ?_
            refine r_inBlock ?_
            refine r_region ?_
            refine l_x rfl (x_mv rfl) ?_
            refine l_x rfl (x_add rfl rfl (by omega)) ?_
            refine l_x rfl (x_as rfl) ?_
            refine l_nil ?_
            exact IH (i + 1) _ _ (by omega) ⟨rfl, rfl, rfl, rfl, rfl, trivial⟩ ⟨by omega, (by rw [← prm_step ha, wot01 hc37 hc55]; have hS := S78.take 4; rw [List.set_set (α := Arc)] at hS; exact hS)⟩
          · skip
            refine r_skip ?_
            refine r_inBlock ?_
            refine r_region ?_
            refine l_x rfl (x_mv rfl) ?_
            refine l_x rfl (x_add rfl rfl (by omega)) ?_
            refine l_x rfl (x_as rfl) ?_
            refine l_nil ?_
            exact IH (i + 1) _ _ (by omega) ⟨rfl, rfl, rfl, rfl, rfl, trivial⟩ ⟨by omega, (by rw [← prm_step ha, wot00 hc37 hc55, set_same (prm_get ha)]; exact S1.take 4)⟩
      · skip
        have hie : i = arcs.length := by omega
        subst hie
        refine r_exit rfl ?_
        refine r_seq ?_
        refine r_region ?_
        refine l_x rfl (x_load rfl (ld_blks (S1.blk 3 rfl) Try.isAgg24 Try.sizeOf24 rfl rfl)) ?_
        refine l_stores (vs := [_, _]) S1 1 rfl rfl rfl rfl (ones_cons rfl (ones_cons (Rd.one (vec_rd (S1.at 2 rfl))) ones_nil)) Try.sizeOf24 (by first | exact Nat.le_refl _ | simp) (splice_all rfl) ?_
        intro w80 S81 hk82
        refine l_x rfl (x_as rfl) ?_
        refine l_nil ?_
        refine r_ret (rs := [.cell 4 24, .tmp 5]) [_, _] Try.func50 rfl ⟨⟨_, rfl, (ld_blks (S81.blk 1 rfl) Try.isAgg24 Try.sizeOf24 rfl rfl)⟩, rfl, trivial⟩ ?_
        exact ⟨vh2215, ifnet_ok h0, newif_ok h0 prm_full (S81.new 2 rfl), S81.le⟩
  · skip
    refine l_pass rfl ?_
    refine l_pass rfl ?_
    refine l_x rfl (x_pick_f rfl rfl) ?_
    refine l_call [] [] [_, _] rfl rfl Try.call84 rfl (c_rasked _ _ _ _ _ (hA.le S6.le)) ?_
    rintro _ w83 ⟨rfl, hl85⟩
    have S84 := S6.step hl85
    refine l_x rfl (x_as rfl) ?_
    refine l_nil ?_
    refine r_seq ?_
    refine r_seq ?_
    have hWE : wotE N arcs r = askd N arcs (false) := wotE_bad hg12
    refine r_region ?_
    refine l_x rfl (x_mv rfl) ?_
    refine l_x rfl (x_neq rfl rfl) ?_
    refine l_nil ?_
    refine r_ifd rfl (fun hc18 => ?_) (fun hc18 => ?_)
    · skip
      refine r_seq ?_
      refine r_region ?_
      refine l_x rfl (x_buildS (out := [_, _]) (ss := [1, 1]) Try.zeroValue24 rfl Try.runUnderlying24 ⟨Try.sizeOf3, Try.sizeOf22, trivial⟩ fill_nil) ?_
      refine l_x rfl (x_mv rfl) ?_
      refine l_stores (vs := [_, _]) S84 1 rfl rfl rfl rfl (ones_cons rfl (ones_cons rfl ones_nil)) Try.sizeOf24 (by first | exact Nat.le_refl _ | simp) (splice_all rfl) ?_
      intro w86 S87 hk88
      refine l_x rfl (x_as rfl) ?_
      refine l_nil ?_
      refine r_ret (rs := [.cell 4 24, .tmp 5]) [_, _] Try.func50 rfl ⟨⟨_, rfl, (ld_blks (S87.blk 1 rfl) Try.isAgg24 Try.sizeOf24 rfl rfl)⟩, rfl, trivial⟩ ?_
      exact ⟨.slice none 0 0, ifnet_bad hWE hc18, newif_bad hWE hc18, S87.le⟩
    · exact absurd (askd_zero.1 (Decidable.not_not.1 hc18)).2 (by decide)

/-- The error of Join. -/
def joE (N : Int) (a : List Arc) (M : Int) (b : List Arc) : Int := if chk N a ≠ 0 then chk N a else if chk M b ≠ 0 then chk M b else if N ≠ M then 1 else if (4000 : Int) < (a.length : Int) + b.length then 2 else 0
section
variable {N M : Int} {a b : List Arc}
theorem joE_1 (h : chk N a ≠ 0) : joE N a M b = chk N a := if_pos h
theorem joE_2 (h : ¬ chk N a ≠ 0) (h2 : chk M b ≠ 0) : joE N a M b = chk M b := by rw [joE, if_neg h, if_pos h2]
theorem joE_3 (h : ¬ chk N a ≠ 0) (h2 : ¬ chk M b ≠ 0) (h3 : N ≠ M) : joE N a M b = 1 := by rw [joE, if_neg h, if_neg h2, if_pos h3]
theorem joE_4 (h : ¬ chk N a ≠ 0) (h2 : ¬ chk M b ≠ 0) (h3 : ¬ N ≠ M) (h4 : (4000 : Int) < (a.length : Int) + b.length) : joE N a M b = 2 := by rw [joE, if_neg h, if_neg h2, if_neg h3, if_pos h4]
theorem joE_5 (h : ¬ chk N a ≠ 0) (h2 : ¬ chk M b ≠ 0) (h3 : ¬ N ≠ M) (h4 : ¬ (4000 : Int) < (a.length : Int) + b.length) : joE N a M b = 0 := by rw [joE, if_neg h, if_neg h2, if_neg h3, if_neg h4]
end

set_option maxHeartbeats 4000000 in
/-- couchant/couchantref06.Join. -/
theorem c_rJoin (N : Int) (va : Value) (arcs : List Arc) (M : Int) (vb : Value) (brcs : List Arc) (w : World) (hA : Rd EA w va arcs) (hB : Rd EA w vb brcs) :
    Cl Try.prog 52 #[.agg #[.int .i64 N, va], .agg #[.int .i64 M, vb]] w fun v w' => ∃ vh, v = .tuple #[.agg #[.int .i64 (if joE N arcs M brcs = 0 then N else 0), vh], .int .i64 (joE N arcs M brcs)] ∧ New w w' (vec EA vh (if joE N arcs M brcs = 0 then arcs ++ brcs else [])) ∧ Le w w' := by
  refine fn_of_run (args := [_, _]) 42 Try.func52 rfl rfl rfl fun cs => ?_
  have S := Own.start (X := nob) w
  refine r_seq ?_
  refine r_region ?_
  refine l_box S rfl rfl ?_
  intro b4 w1 S2 hl3
  refine l_box S2 rfl rfl ?_
  intro b8 w5 S6 hl7
  refine l_alloc S6 rfl Try.zeroValue24 rfl ?_
  intro b12 w9 S10 hl11
  refine l_x rfl (x_as rfl) ?_
  refine l_nil ?_
  refine r_seq ?_
  refine r_region ?_
  refine l_x rfl (x_load rfl (ld_blks (S10.blk 0 rfl) Try.isAgg24 Try.sizeOf24 rfl rfl)) ?_
  refine l_call [] [] [_] rfl rfl Try.call37 rfl (c_rCheck _ _ _ _ (hA.le S10.le)) ?_
  rintro _ w13 ⟨rfl, hl15⟩
  have S14 := S10.step hl15
  refine l_x rfl (x_as rfl) ?_
  refine l_nil ?_
  refine r_seq ?_
  refine r_seq ?_
  refine r_region ?_
  refine l_x rfl (x_mv rfl) ?_
  refine l_x rfl (x_eql rfl rfl) ?_
  refine l_nil ?_
  refine r_ifd rfl (fun hc11 => ?_) (fun hc11 => ?_)
  · skip
    refine r_region ?_
    refine l_x rfl (x_load rfl (ld_blks (S14.blk 1 rfl) Try.isAgg24 Try.sizeOf24 rfl rfl)) ?_
    refine l_call [] [] [_] rfl rfl Try.call37 rfl (c_rCheck _ _ _ _ (hB.le S14.le)) ?_
    rintro _ w16 ⟨rfl, hl18⟩
    have S17 := S14.step hl18
    refine l_x rfl (x_as rfl) ?_
    refine l_nil ?_
    refine r_seq ?_
    refine r_seq ?_
    refine r_region ?_
    refine l_x rfl (x_mv rfl) ?_
    refine l_x rfl (x_neq rfl rfl) ?_
    refine l_nil ?_
    refine r_ifd rfl (fun hc15 => ?_) (fun hc15 => ?_)
    · skip
      refine r_seq ?_
      refine r_region ?_
      refine l_x rfl (x_buildS (out := [_, _]) (ss := [1, 1]) Try.zeroValue24 rfl Try.runUnderlying24 ⟨Try.sizeOf3, Try.sizeOf22, trivial⟩ fill_nil) ?_
      refine l_x rfl (x_mv rfl) ?_
      refine l_stores (vs := [_, _]) S17 2 rfl rfl rfl rfl (ones_cons rfl (ones_cons rfl ones_nil)) Try.sizeOf24 (by first | exact Nat.le_refl _ | simp) (splice_all rfl) ?_
      intro w19 S20 hk21
      refine l_x rfl (x_as rfl) ?_
      refine l_nil ?_
      refine r_ret (rs := [.cell 4 24, .tmp 5]) [_, _] Try.func52 rfl ⟨⟨_, rfl, (ld_blks (S20.blk 2 rfl) Try.isAgg24 Try.sizeOf24 rfl rfl)⟩, rfl, trivial⟩ ?_
      have hE : joE N arcs M brcs = _ := joE_2 (by omega) hc15
      exact ⟨.slice none 0 0, ifnet_bad hE hc15, newif_bad hE hc15, S20.le⟩
    · skip
      have hV := chk_zero.1 hc11
      have hV2 := chk_zero.1 (Decidable.not_not.1 hc15)
      have hLx := hV.len
      have hLy := hV2.len
      refine r_skip ?_
      refine r_seq ?_
      refine r_seq ?_
      refine r_region ?_
      refine l_x rfl (x_fieldAddr rfl Try.runUnderlying24 rfl Try.sizeOf3 (by decide)) ?_
      refine l_x rfl (x_load rfl (ld_blk (S17.blk 0 rfl) Try.isAgg3 rfl)) ?_
      refine l_x rfl (x_fieldAddr rfl Try.runUnderlying24 rfl Try.sizeOf3 (by decide)) ?_
      refine l_x rfl (x_load rfl (ld_blk (S17.blk 1 rfl) Try.isAgg3 rfl)) ?_
      refine l_x rfl (x_neq rfl rfl) ?_
      refine l_nil ?_
      refine r_ifd rfl (fun hc22 => ?_) (fun hc22 => ?_)
      · skip
        refine r_seq ?_
        refine r_region ?_
        refine l_x rfl (x_buildS (out := [_, _]) (ss := [1, 1]) Try.zeroValue24 rfl Try.runUnderlying24 ⟨Try.sizeOf3, Try.sizeOf22, trivial⟩ fill_nil) ?_
        refine l_stores (vs := [_, _]) S17 2 rfl rfl rfl rfl (ones_cons rfl (ones_cons rfl ones_nil)) Try.sizeOf24 (by first | exact Nat.le_refl _ | simp) (splice_all rfl) ?_
        intro w22 S23 hk24
        refine l_x rfl (x_as rfl) ?_
        refine l_nil ?_
        refine r_ret (rs := [.cell 4 24, .tmp 5]) [_, _] Try.func52 rfl ⟨⟨_, rfl, (ld_blks (S23.blk 2 rfl) Try.isAgg24 Try.sizeOf24 rfl rfl)⟩, rfl, trivial⟩ ?_
        have hE : joE N arcs M brcs = _ := joE_3 (by omega) (by omega) hc22
        exact ⟨.slice none 0 0, ifnet_bad hE (by decide), newif_bad hE (by decide), S23.le⟩
      · skip
        refine r_skip ?_
        refine r_seq ?_
        refine r_seq ?_
        refine r_region ?_
        refine l_x rfl (x_fieldAddr rfl Try.runUnderlying24 rfl Try.sizeOf22 (by decide)) ?_
        refine l_x rfl (x_load rfl (ld_blk (S17.blk 0 rfl) Try.isAgg22 rfl)) ?_
        refine l_x rfl (x_len (hA.le S17.le) rfl Try.runUnderlying22) ?_
        refine l_x rfl (x_fieldAddr rfl Try.runUnderlying24 rfl Try.sizeOf22 (by decide)) ?_
        refine l_x rfl (x_load rfl (ld_blk (S17.blk 1 rfl) Try.isAgg22 rfl)) ?_
        refine l_x rfl (x_len (hB.le S17.le) rfl Try.runUnderlying22) ?_
        refine l_x rfl (x_add rfl rfl (by omega)) ?_
        refine l_x rfl (x_gtr rfl rfl) ?_
        refine l_nil ?_
        refine r_ifd rfl (fun hc31 => ?_) (fun hc31 => ?_)
        · skip
          refine r_seq ?_
          refine r_region ?_
          refine l_x rfl (x_buildS (out := [_, _]) (ss := [1, 1]) Try.zeroValue24 rfl Try.runUnderlying24 ⟨Try.sizeOf3, Try.sizeOf22, trivial⟩ fill_nil) ?_
          refine l_stores (vs := [_, _]) S17 2 rfl rfl rfl rfl (ones_cons rfl (ones_cons rfl ones_nil)) Try.sizeOf24 (by first | exact Nat.le_refl _ | simp) (splice_all rfl) ?_
          intro w25 S26 hk27
          refine l_x rfl (x_as rfl) ?_
          refine l_nil ?_
          refine r_ret (rs := [.cell 4 24, .tmp 5]) [_, _] Try.func52 rfl ⟨⟨_, rfl, (ld_blks (S26.blk 2 rfl) Try.isAgg24 Try.sizeOf24 rfl rfl)⟩, rfl, trivial⟩ ?_
          have hE : joE N arcs M brcs = _ := joE_4 (by omega) (by omega) hc22 hc31
          exact ⟨.slice none 0 0, ifnet_bad hE (by decide), newif_bad hE (by decide), S26.le⟩
        · skip
          refine r_skip ?_
          refine r_seq ?_
          refine r_region ?_
          refine l_x rfl (x_load rfl (ld_blks (S17.blk 0 rfl) Try.isAgg24 Try.sizeOf24 rfl rfl)) ?_
          refine l_call [] [] [_] rfl rfl Try.call104 rfl (c_rcopied _ _ _ (by omega) _ (hA.le S17.le)) ?_
          rintro _ w28 ⟨vh3428, rfl, hN3428, hl3428⟩
          have S29 := S17.add hl3428 hN3428
          refine l_alloc S29 rfl Try.zeroValue24 rfl ?_
          intro b33 w30 S31 hl32
          refine l_stores (vs := [_, _]) S31 4 rfl rfl rfl rfl (ones_cons rfl (ones_cons (Rd.one (vec_rd (S31.at 3 rfl))) ones_nil)) Try.sizeOf24 (by first | exact Nat.le_refl _ | simp) (splice_all rfl) ?_
          intro w34 S35 hk36
          refine l_nil ?_
          refine r_seq ?_
          refine r_region ?_
          refine l_x rfl (x_fieldAddr rfl Try.runUnderlying24 rfl Try.sizeOf22 (by decide)) ?_
          refine l_x rfl (x_load rfl (ld_blk (S35.blk 4 rfl) Try.isAgg22 rfl)) ?_
          refine l_x rfl (x_fieldAddr rfl Try.runUnderlying24 rfl Try.sizeOf22 (by decide)) ?_
          refine l_x rfl (x_load rfl (ld_blk (S35.blk 1 rfl) Try.isAgg22 rfl)) ?_
          refine l_append EA S35 3 rfl rfl rfl rfl (hB.le S35.le) Try.underlying22 info39 rfl rfl rfl (by unfold maxLen; omega) (by show _ * 48 ≤ _; omega) ?_
          intro v40 w37 S38 hk39 hv41
          refine l_x rfl (x_fieldAddr rfl Try.runUnderlying24 rfl Try.sizeOf22 (by decide)) ?_
          refine l_storeq (c' := [_, _]) (v := v40) S38 4 rfl rfl rfl rfl (Rd.one (vec_rd (S38.at 3 rfl))) Try.sizeOf22 (by simp) rfl ?_
          intro w42 S43 hk44
          refine l_nil ?_
          refine r_seq ?_
          refine r_region ?_
          refine l_x rfl (x_load rfl (ld_blks (S43.blk 4 rfl) Try.isAgg24 Try.sizeOf24 rfl rfl)) ?_
          refine l_stores (vs := [_, _]) S43 2 rfl rfl rfl rfl (ones_cons rfl (ones_cons (Rd.one (vec_rd (S43.at 3 rfl))) ones_nil)) Try.sizeOf24 (by first | exact Nat.le_refl _ | simp) (splice_all rfl) ?_
          intro w45 S46 hk47
          refine l_x rfl (x_as rfl) ?_
          refine l_nil ?_
          refine r_ret (rs := [.cell 4 24, .tmp 5]) [_, _] Try.func52 rfl ⟨⟨_, rfl, (ld_blks (S46.blk 2 rfl) Try.isAgg24 Try.sizeOf24 rfl rfl)⟩, rfl, trivial⟩ ?_
          have hE : joE N arcs M brcs = 0 := joE_5 (by omega) (by omega) hc22 hc31
          exact ⟨v40, ifnet_ok hE, newif_ok hE rfl (S46.new 3 rfl), S46.le⟩
  · skip
    refine r_skip ?_
    refine r_seq ?_
    refine r_seq ?_
    refine r_region ?_
    refine l_x rfl (x_mv rfl) ?_
    refine l_x rfl (x_neq rfl rfl) ?_
    refine l_nil ?_
    refine r_ifd rfl (fun hc15 => ?_) (fun hc15 => ?_)
    · skip
      refine r_seq ?_
      refine r_region ?_
      refine l_x rfl (x_buildS (out := [_, _]) (ss := [1, 1]) Try.zeroValue24 rfl Try.runUnderlying24 ⟨Try.sizeOf3, Try.sizeOf22, trivial⟩ fill_nil) ?_
      refine l_x rfl (x_mv rfl) ?_
      refine l_stores (vs := [_, _]) S14 2 rfl rfl rfl rfl (ones_cons rfl (ones_cons rfl ones_nil)) Try.sizeOf24 (by first | exact Nat.le_refl _ | simp) (splice_all rfl) ?_
      intro w48 S49 hk50
      refine l_x rfl (x_as rfl) ?_
      refine l_nil ?_
      refine r_ret (rs := [.cell 4 24, .tmp 5]) [_, _] Try.func52 rfl ⟨⟨_, rfl, (ld_blks (S49.blk 2 rfl) Try.isAgg24 Try.sizeOf24 rfl rfl)⟩, rfl, trivial⟩ ?_
      have hE : joE N arcs M brcs = _ := joE_1 hc15
      exact ⟨.slice none 0 0, ifnet_bad hE hc15, newif_bad hE hc15, S49.le⟩
    · omega

end Go.Proofs

/-
  Contracts of functions of the program: each by symbolic execution of its text.
-/
namespace Go.Proofs
open Go Go.Vk Go.Vk.Flow

abbrev ENet := netE 24
theorem info24 : Try.prog.info? 24 = some Try.t24 := by kernel_rfl
section
variable {N M : Int} {a b l0 : List Arc} {n0 : Int} {i : Nat}
theorem jo_round (h1 : 0 < i → chk N a = 0) (hi : i < 2) (hc : chk n0 l0 = if i = 0 then chk N a else chk M b) (hne : chk n0 l0 ≠ 0) : joE N a M b = chk n0 l0 := by
  rcases (show i = 0 ∨ i = 1 by omega) with rfl | rfl
  · rw [if_pos rfl] at hc; rw [hc] at hne ⊢; exact joE_1 hne
  · rw [if_neg (by decide)] at hc; rw [hc] at hne ⊢; exact joE_2 (by have := h1 (by omega); omega) hne
theorem jo_inv1 (h1 : 0 < i → chk N a = 0) (hc : chk n0 l0 = if i = 0 then chk N a else chk M b) (h : ¬ chk n0 l0 ≠ 0) : 0 < i + 1 → chk N a = 0 := by
  intro _
  rcases Nat.eq_zero_or_pos i with h0 | h0
  · rw [if_pos h0] at hc; omega
  · exact h1 h0
theorem jo_inv2 (hi : i < 2) (hc : chk n0 l0 = if i = 0 then chk N a else chk M b) (h : ¬ chk n0 l0 ≠ 0) : 1 < i + 1 → chk M b = 0 := by
  intro h1
  rw [if_neg (by omega)] at hc; omega
end

set_option maxHeartbeats 4000000 in
/-- couchant/flow.Join. -/
theorem c_Join (N : Int) (va : Value) (arcs : List Arc) (M : Int) (vb : Value) (brcs : List Arc) (w : World) (hA : Rd EA w va arcs) (hB : Rd EA w vb brcs) :
    Cl Try.prog 51 #[.agg #[.int .i64 N, va], .agg #[.int .i64 M, vb]] w fun v w' => ∃ vh, v = .tuple #[.agg #[.int .i64 (if joE N arcs M brcs = 0 then N else 0), vh], .int .i64 (joE N arcs M brcs)] ∧ New w w' (vec EA vh (if joE N arcs M brcs = 0 then arcs ++ brcs else [])) ∧ Le w w' := by
  obtain ⟨ha, rfl⟩ := rd_hv hA
  obtain ⟨hb, rfl⟩ := rd_hv hB
  refine fn_of_run (args := [_, _]) 50 Try.func51 rfl rfl rfl fun cs => ?_
  have S := Own.start (X := nob) w
  refine r_seq ?_
  refine r_region ?_
  refine l_box S rfl rfl ?_
  intro b4 w1 S2 hl3
  refine l_box S2 rfl rfl ?_
  intro b8 w5 S6 hl7
  refine l_alloc S6 rfl Try.zeroValue24 rfl ?_
  intro b12 w9 S10 hl11
  refine l_x rfl (x_as rfl) ?_
  refine l_nil ?_
  refine r_seq ?_
  refine r_seq ?_
  refine r_region ?_
  refine l_x rfl (x_load rfl (ld_blks (S10.blk 0 rfl) Try.isAgg24 Try.sizeOf24 rfl rfl)) ?_
  refine l_x rfl (x_load rfl (ld_blks (S10.blk 1 rfl) Try.isAgg24 Try.sizeOf24 rfl rfl)) ?_
  refine l_buildSlice ENet ([(N, ha), (M, hb)] : List (Int × Hd)) S10 rfl Try.runUnderlying112 Try.sizeOf24 Try.zeroValue24 rfl ⟨rfl, rfl, rfl, rfl, trivial⟩ (Nat.le_of_ble_eq_true rfl) ?_
  intro v16 w13 S14 hl15
  refine l_x rfl (x_len (vec_rd (S14.at 3 rfl)) rfl Try.runUnderlying112) ?_
  refine l_x rfl (x_mv rfl) ?_
  refine l_nil ?_
  refine r_block ?_
  refine r_loop (G := Nat) (fun i => 2 - i) (fun i => [(2, .pointer (some ⟨b4, 0, none⟩)), (3, .pointer (some ⟨b8, 0, none⟩)), (4, .pointer (some ⟨b12, 0, none⟩)), (11, v16), (12, .int .i64 ([(N, ha), (M, hb)] : List (Int × Hd)).length), (13, .int .i64 i)]) (fun i w' => (i ≤ 2) ∧ (0 < i → chk N arcs = 0) ∧ (1 < i → chk M brcs = 0) ∧ Own nob w w' [blk b4 [.int .i64 N, hv ha] 24, blk b8 [.int .i64 M, hv hb] 24, blk b12 [.int .i64 0, .slice none 0 0] 24, vec ENet v16 ([(N, ha), (M, hb)] : List (Int × Hd))]) 0 ⟨rfl, rfl, rfl, rfl, rfl, rfl, trivial⟩ ⟨Nat.zero_le _, fun h => absurd h (Nat.lt_irrefl 0), fun h => absurd h (by decide), (S14.take 4)⟩ ?_
  rintro i ρ w1 ⟨hi, h1, h2, S1⟩ IH
  refine r_seq ?_
  refine r_region ?_
  refine l_x rfl (x_lss rfl rfl) ?_
  refine l_nil ?_
  refine r_seq ?_
  refine r_ifd rfl (fun hc14 => ?_) (fun hc14 => ?_)
  · skip
    have hi2 : i < 2 := by have hh := hc14; simp at hh; omega
    obtain ⟨n0, h0, l0, hq, hr, hc⟩ : ∃ n0 h0 l0, ([(N, ha), (M, hb)] : List (Int × Hd))[i]? = some (n0, h0) ∧ Rd EA w (hv h0) l0 ∧ chk n0 l0 = (if i = 0 then chk N arcs else chk M brcs) := by
      rcases (show i = 0 ∨ i = 1 by omega) with rfl | rfl
      · exact ⟨N, ha, arcs, rfl, hA, rfl⟩
      · exact ⟨M, hb, brcs, rfl, hB, rfl⟩
    refine r_skip ?_
    refine r_seq ?_
    refine r_block ?_
    refine r_seq ?_
    refine r_region ?_
    refine l_index ENet rfl (vec_rd (S1.at 3 rfl)) rfl rfl Try.runUnderlying112 Try.sizeOf24 (by omega) hq ?_
    intro b17 o18 hat19 row20
    refine l_x rfl (x_load rfl (ld_row Try.isAgg24 Try.sizeOf24 rfl row20)) ?_
    refine l_alloc S1 rfl Try.zeroValue24 rfl ?_
    intro b24 w21 S22 hl23
    refine l_stores (vs := [_, _]) S22 4 rfl rfl rfl rfl (ones_cons rfl (ones_cons (Rd.one (hr.le S22.le)) ones_nil)) Try.sizeOf24 (by first | exact Nat.le_refl _ | simp) (splice_all rfl) ?_
    intro w25 S26 hk27
    refine l_nil ?_
    refine r_seq ?_
    refine r_region ?_
    refine l_x rfl (x_load rfl (ld_blks (S26.blk 4 rfl) Try.isAgg24 Try.sizeOf24 rfl rfl)) ?_
    refine l_call [] [] [_] rfl rfl Try.call36 rfl (c_Check _ _ l0 _ (hr.le S26.le)) ?_
    rintro _ w28 ⟨rfl, hl30⟩
    have S29 := S26.step hl30
    refine l_x rfl (x_as rfl) ?_
    refine l_nil ?_
    refine r_seq ?_
    refine r_region ?_
    refine l_x rfl (x_mv rfl) ?_
    refine l_x rfl (x_neq rfl rfl) ?_
    refine l_nil ?_
    refine r_ifd rfl (fun hc20 => ?_) (fun hc20 => ?_)
    · skip
      refine r_seq ?_
      refine r_region ?_
      refine l_x rfl (x_buildS (out := [_, _]) (ss := [1, 1]) Try.zeroValue24 rfl Try.runUnderlying24 ⟨Try.sizeOf3, Try.sizeOf22, trivial⟩ fill_nil) ?_
      refine l_x rfl (x_mv rfl) ?_
      refine l_stores (vs := [_, _]) S29 2 rfl rfl rfl rfl (ones_cons rfl (ones_cons rfl ones_nil)) Try.sizeOf24 (by first | exact Nat.le_refl _ | simp) (splice_all rfl) ?_
      intro w31 S32 hk33
      refine l_x rfl (x_as rfl) ?_
      refine l_nil ?_
      refine r_ret (rs := [.cell 4 24, .tmp 5]) [_, _] Try.func51 rfl ⟨⟨_, rfl, (ld_blks (S32.blk 2 rfl) Try.isAgg24 Try.sizeOf24 rfl rfl)⟩, rfl, trivial⟩ ?_
      have hE : joE N arcs M brcs = _ := jo_round h1 hi2 hc hc20
      exact ⟨.slice none 0 0, ifnet_bad hE hc20, newif_bad hE hc20, S32.le⟩
    · skip
      refine r_skip ?_
      refine r_inBlock ?_
      refine r_region ?_
      refine l_x rfl (x_add rfl rfl (by omega)) ?_
      refine l_x rfl (x_mv rfl) ?_
      refine l_nil ?_
      exact IH (i + 1) _ _ (by omega) ⟨rfl, rfl, rfl, rfl, rfl, rfl, trivial⟩ ⟨by omega, jo_inv1 h1 hc hc20, jo_inv2 hi2 hc hc20, (S29.take 4)⟩
  · skip
    have hi2 : i = 2 := by have hh := hc14; simp at hh; omega
    have hc1 := h1 (by omega)
    have hc2 := h2 (by omega)
    have hV := chk_zero.1 hc1
    have hV2 := chk_zero.1 hc2
    have hLx := hV.len
    have hLy := hV2.len
    refine r_exit rfl ?_
    refine r_seq ?_
    refine r_block ?_
    refine r_seq ?_
    refine r_region ?_
    refine l_x rfl (x_fieldAddr rfl Try.runUnderlying24 rfl Try.sizeOf3 (by decide)) ?_
    refine l_x rfl (x_load rfl (ld_blk (S1.blk 0 rfl) Try.isAgg3 rfl)) ?_
    refine l_x rfl (x_fieldAddr rfl Try.runUnderlying24 rfl Try.sizeOf3 (by decide)) ?_
    refine l_x rfl (x_load rfl (ld_blk (S1.blk 1 rfl) Try.isAgg3 rfl)) ?_
    refine l_x rfl (x_neq rfl rfl) ?_
    refine l_x rfl (x_as rfl) ?_
    refine l_nil ?_
    refine r_ifd rfl (fun hc24 => ?_) (fun hc24 => ?_)
    · skip
      refine r_seq ?_
      refine r_region ?_
      refine l_x rfl (x_buildS (out := [_, _]) (ss := [1, 1]) Try.zeroValue24 rfl Try.runUnderlying24 ⟨Try.sizeOf3, Try.sizeOf22, trivial⟩ fill_nil) ?_
      refine l_stores (vs := [_, _]) S1 2 rfl rfl rfl rfl (ones_cons rfl (ones_cons rfl ones_nil)) Try.sizeOf24 (by first | exact Nat.le_refl _ | simp) (splice_all rfl) ?_
      intro w34 S35 hk36
      refine l_x rfl (x_as rfl) ?_
      refine l_nil ?_
      refine r_ret (rs := [.cell 4 24, .tmp 5]) [_, _] Try.func51 rfl ⟨⟨_, rfl, (ld_blks (S35.blk 2 rfl) Try.isAgg24 Try.sizeOf24 rfl rfl)⟩, rfl, trivial⟩ ?_
      have hE : joE N arcs M brcs = _ := joE_3 (by omega) (by omega) hc24
      exact ⟨.slice none 0 0, ifnet_bad hE (by decide), newif_bad hE (by decide), S35.le⟩
    · skip
      refine r_seq ?_
      refine r_region ?_
      refine l_x rfl (x_fieldAddr rfl Try.runUnderlying24 rfl Try.sizeOf22 (by decide)) ?_
      refine l_x rfl (x_load rfl (ld_blk (S1.blk 0 rfl) Try.isAgg22 rfl)) ?_
      refine l_x rfl (x_len (hA.le S1.le) rfl Try.runUnderlying22) ?_
      refine l_x rfl (x_fieldAddr rfl Try.runUnderlying24 rfl Try.sizeOf22 (by decide)) ?_
      refine l_x rfl (x_load rfl (ld_blk (S1.blk 1 rfl) Try.isAgg22 rfl)) ?_
      refine l_x rfl (x_len (hB.le S1.le) rfl Try.runUnderlying22) ?_
      refine l_x rfl (x_add rfl rfl (by omega)) ?_
      refine l_x rfl (x_gtr rfl rfl) ?_
      refine l_x rfl (x_as rfl) ?_
      refine l_nil ?_
      refine r_ifd rfl (fun hc31 => ?_) (fun hc31 => ?_)
      · skip
        refine r_seq ?_
        refine r_region ?_
        refine l_x rfl (x_buildS (out := [_, _]) (ss := [1, 1]) Try.zeroValue24 rfl Try.runUnderlying24 ⟨Try.sizeOf3, Try.sizeOf22, trivial⟩ fill_nil) ?_
        refine l_stores (vs := [_, _]) S1 2 rfl rfl rfl rfl (ones_cons rfl (ones_cons rfl ones_nil)) Try.sizeOf24 (by first | exact Nat.le_refl _ | simp) (splice_all rfl) ?_
        intro w37 S38 hk39
        refine l_x rfl (x_as rfl) ?_
        refine l_nil ?_
        refine r_ret (rs := [.cell 4 24, .tmp 5]) [_, _] Try.func51 rfl ⟨⟨_, rfl, (ld_blks (S38.blk 2 rfl) Try.isAgg24 Try.sizeOf24 rfl rfl)⟩, rfl, trivial⟩ ?_
        have hE : joE N arcs M brcs = _ := joE_4 (by omega) (by omega) hc24 hc31
        exact ⟨.slice none 0 0, ifnet_bad hE (by decide), newif_bad hE (by decide), S38.le⟩
      · skip
        refine r_skip ?_
        refine r_inBlock ?_
        refine r_seq ?_
        refine r_drawE 8 (yng w1) Try.mixed (by kernel_rfl) ?_
        intro w40 hl41
        have S42 := S1.step hl41
        have hy43 : Keep (yng w1) w1 w40 := .of_le hl41
        refine e_exact 0 _ (by kernel_rfl) rfl rfl (by kernel_rfl) rfl (ex_x rfl (fun w1 h1 => x_fieldAddr rfl Try.runUnderlying24 rfl Try.sizeOf3 (by decide))) ?_
        refine e_exact 1 _ (by kernel_rfl) rfl rfl (by kernel_rfl) rfl (ex_x rfl (fun w1 h1 => x_load rfl (ld_blk ((S1.yng (hy43.trans h1)).blk 0 rfl) Try.isAgg3 rfl))) ?_
        refine e_exact 2 _ (by kernel_rfl) rfl rfl (by kernel_rfl) rfl (ex_x rfl (fun w1 h1 => x_fieldAddr rfl Try.runUnderlying24 rfl Try.sizeOf22 (by decide))) ?_
        refine e_exact 3 _ (by kernel_rfl) rfl rfl (by kernel_rfl) rfl (ex_x rfl (fun w1 h1 => x_load rfl (ld_blk ((S1.yng (hy43.trans h1)).blk 0 rfl) Try.isAgg22 rfl))) ?_
        refine e_exact 5 _ (by kernel_rfl) rfl rfl (by kernel_rfl) rfl (ex_x rfl (fun w1 h1 => x_fieldAddr rfl Try.runUnderlying24 rfl Try.sizeOf22 (by decide))) ?_
        refine e_exact 6 _ (by kernel_rfl) rfl rfl (by kernel_rfl) rfl (ex_x rfl (fun w1 h1 => x_load rfl (ld_blk ((S1.yng (hy43.trans h1)).blk 1 rfl) Try.isAgg22 rfl))) ?_
        refine e_next [4] (by kernel_rfl) (by kernel_rfl) ⟨⟨_, _, rfl, rfl, ?_⟩, trivial⟩
        refine s_callf [] [] [_] rfl rfl Try.call65 rfl ((c_copiedA _ _ (by omega) _ (hA.le S42.le)).mono ?_)
        rintro v4544 w44 ⟨hN4544, hl4544⟩
        have S45 := S42.add hl4544 hN4544
        refine ⟨.of_le hl4544, ?_⟩
        have hy46 : Keep (yng w1) w1 w44 := hy43.trans (Keep.of_le hl4544)
        refine e_next [7] (by kernel_rfl) (by kernel_rfl) ⟨⟨_, _, rfl, rfl, ?_⟩, trivial⟩
        refine s_append EA (S45.lend 4 rfl) 0 rfl rfl rfl rfl (hB.le S45.le) Try.underlying22 info39 rfl rfl rfl (by unfold maxLen; omega) (by show _ * 48 ≤ _; omega) ?_
        intro v51 w47 S48 hk50 hv52
        have S49 := S45.back 4 rfl S48
        refine ⟨hk50.mono (fun c _ hc => Nat.le_trans hy43.size (hN4544.bd c hc).1), ?_⟩
        have hy53 : Keep (yng w1) w1 w47 := hy46.trans (hk50.mono (fun c _ hc => Nat.le_trans hy43.size (hN4544.bd c hc).1))
        refine e_done (by kernel_rfl) ?_
        refine l_x rfl (x_buildS (out := [_, _]) (ss := [1, 1]) Try.zeroValue24 rfl Try.runUnderlying24 ⟨Try.sizeOf3, Try.sizeOf22, trivial⟩ (fill_cons rfl rfl rfl (Nat.le_of_ble_eq_true rfl) (fill_cons rfl (Rd.cells (vec_rd (S49.at 4 rfl))) rfl (Nat.le_of_ble_eq_true rfl) fill_nil))) ?_
        refine l_stores (vs := [_, _]) S49 2 rfl rfl rfl rfl (ones_cons rfl (ones_cons (Rd.one (vec_rd (S49.at 4 rfl))) ones_nil)) Try.sizeOf24 (by first | exact Nat.le_refl _ | simp) (splice_all rfl) ?_
        intro w54 S55 hk56
        refine l_x rfl (x_as rfl) ?_
        refine l_nil ?_
        refine r_ret (rs := [.cell 4 24, .tmp 5]) [_, _] Try.func51 rfl ⟨⟨_, rfl, (ld_blks (S55.blk 2 rfl) Try.isAgg24 Try.sizeOf24 rfl rfl)⟩, rfl, trivial⟩ ?_
        have hE : joE N arcs M brcs = 0 := joE_5 (by omega) (by omega) hc24 hc31
        exact ⟨v51, ifnet_ok hE, newif_ok hE rfl (S55.new 4 rfl), S55.le⟩

end Go.Proofs
