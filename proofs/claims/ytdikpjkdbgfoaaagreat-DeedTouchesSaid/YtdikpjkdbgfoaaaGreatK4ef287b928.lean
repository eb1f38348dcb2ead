/- Texts joined for claims: LTouches. -/
import Derived.Test.YtdikpjkdbgfoaaaGreatK7cda704039
import Derived.Test.YtdikpjkdbgfoaaaGreatKa4eab24274
import Derived.Test.YtdikpjkdbgfoaaaGreatK6a17690f3f
set_option linter.unusedVariables false
set_option linter.unusedSimpArgs false
set_option linter.unusedSectionVars false
/-
  Contracts of functions of the program: each by symbolic execution of its text.
-/
namespace Go.Proofs
open Go Go.Vk Go.Vk.Flow

open Go.Vk.Deed
theorem src_len9 (l : List D) (known day o : Int) : (sourceD l known day o).1.length ≤ 400 ∧ (sourceD l known day o).2.length ≤ 400 := by
  have := idsS_len (onD l known day) o
  exact ⟨this, by unfold sourceD; rw [List.length_map]; exact this⟩
theorem tou_len9 (l : List D) (a b day : Int) : (touchedD l a b day).length ≤ 40 := Nat.le_trans (List.length_filter_le _ _) (by rw [owners_len]; omega)

set_option maxHeartbeats 4000000 in
/-- couchant/couchantlaw02.DeedTouches. -/
theorem lawTouches (rs : List Rw) (vl : Value) (a b day o : Int) (w : World) (hD : DsR 26 3 w vl rs) :
    Cl Tryz.prog 5 #[vl, .int .i64 a, .int .i64 b, .int .i64 day, .int .i64 o] w fun v w' => v = .bool true ∧ Le w w' := by
  refine fn_of_run (args := [_, _, _, _, _]) 59 Tryz.func5 rfl rfl rfl fun cs => ?_
  have S := Own.start (X := nob) w
  refine r_seq ?_
  refine r_region ?_
  refine l_x rfl (x_as rfl) ?_
  refine l_nil ?_
  refine r_seq ?_
  refine r_seq ?_
  refine r_region ?_
  refine l_x rfl (x_mv rfl) ?_
  refine l_call [] [] [_] rfl rfl Tryz.call25 rfl (c_few rs _ _ (hD.le S.le)) ?_
  rintro _ w1 ⟨rfl, hl3⟩
  have S2 := S.step hl3
  refine l_x rfl (x_not rfl) ?_
  refine l_nil ?_
  refine r_if rfl (fun hc17 => ?_) (fun hc17 => ?_)
  · skip
    refine r_seq ?_
    refine r_region ?_
    refine l_call [] [] [] rfl rfl Tryz.call23 rfl (c_enteredX _) ?_
    rintro _ w4 ⟨rfl, hl6⟩
    have S5 := S2.step hl6
    refine l_x rfl (x_as rfl) ?_
    refine l_nil ?_
    refine r_ret (rs := [.tmp 10]) [_] Tryz.func5 rfl ⟨rfl, trivial⟩ ?_
    exact ⟨rfl, S5.le⟩
  refine r_skip ?_
  refine r_seq ?_
  refine r_region ?_
  refine l_x rfl (x_mv rfl) ?_
  refine l_x rfl (x_mv rfl) ?_
  refine l_x rfl (x_mv rfl) ?_
  refine l_x rfl (x_mv rfl) ?_
  refine l_call [] [] [_, _, _, _] rfl rfl Tryz.call29 rfl (c_Source rs vl a day o _ (hD.le S2.le)) ?_
  rintro _ w7 ⟨s1x, s2x, rfl, h9⟩
  have S8 := S2.join h9
  refine l_x rfl (x_mv rfl) ?_
  refine l_x rfl (x_extract rfl rfl) ?_
  refine l_x rfl (x_extract rfl rfl) ?_
  refine l_x rfl (x_as rfl) ?_
  refine l_x rfl (x_as rfl) ?_
  refine l_nil ?_
  refine r_seq ?_
  refine r_region ?_
  refine l_x rfl (x_mv rfl) ?_
  refine l_x rfl (x_mv rfl) ?_
  refine l_x rfl (x_mv rfl) ?_
  refine l_x rfl (x_mv rfl) ?_
  refine l_call [] [] [_, _, _, _] rfl rfl Tryz.call30 rfl (c_rSource rs vl a day o _ (hD.le S8.le)) ?_
  rintro _ w10 ⟨s1y, s2y, rfl, h12⟩
  have S11 := S8.join h12
  refine l_x rfl (x_mv rfl) ?_
  refine l_x rfl (x_extract rfl rfl) ?_
  refine l_x rfl (x_extract rfl rfl) ?_
  refine l_x rfl (x_as rfl) ?_
  refine l_x rfl (x_as rfl) ?_
  refine l_nil ?_
  refine r_seq ?_
  refine r_region ?_
  refine l_call [] [] [] rfl rfl Tryz.call23 rfl (c_enteredX _) ?_
  rintro _ w13 ⟨rfl, hl15⟩
  have S14 := S11.step hl15
  refine l_x rfl (x_mv rfl) ?_
  refine l_x rfl (x_mv rfl) ?_
  refine l_x rfl (x_mv rfl) ?_
  refine l_call [] [] [_, _] rfl rfl Tryz.call31 rfl ((c_SameInts _ _ _ _ (by have := (src_len9 (dl rs) a day o).1; omega) _ (vec_rd (S14.at 0 rfl)) (vec_rd (S14.at 2 rfl))).mono (fun v w' h => (⟨h.1.trans (congrArg Value.bool (decide_eq_true rfl)), h.2⟩ : v = .bool true ∧ Le _ w'))) ?_
  rintro _ w16 ⟨rfl, hl18⟩
  have S17 := S14.step hl18
  refine l_x rfl (x_pick_t rfl rfl) ?_
  refine l_x rfl (x_mv rfl) ?_
  refine l_x rfl (x_mv rfl) ?_
  refine l_x rfl (x_mv rfl) ?_
  refine l_call [] [] [_, _] rfl rfl Tryz.call31 rfl ((c_SameInts _ _ _ _ (by have := (src_len9 (dl rs) a day o).2; omega) _ (vec_rd (S17.at 1 rfl)) (vec_rd (S17.at 3 rfl))).mono (fun v w' h => (⟨h.1.trans (congrArg Value.bool (decide_eq_true rfl)), h.2⟩ : v = .bool true ∧ Le _ w'))) ?_
  rintro _ w19 ⟨rfl, hl21⟩
  have S20 := S17.step hl21
  refine l_x rfl (x_pick_t rfl rfl) ?_
  refine l_x rfl (x_mv rfl) ?_
  refine l_x rfl (x_mv rfl) ?_
  refine l_x rfl (x_mv rfl) ?_
  refine l_x rfl (x_mv rfl) ?_
  refine l_x rfl (x_mv rfl) ?_
  refine l_call [] [] [_, _, _, _] rfl rfl Tryz.call32 rfl (c_Touched rs vl a b day _ (hD.le S20.le)) ?_
  rintro v5122 w22 ⟨hN5122, hl5122⟩
  have S23 := S20.add hl5122 hN5122
  refine l_x rfl (x_mv rfl) ?_
  refine l_x rfl (x_mv rfl) ?_
  refine l_x rfl (x_mv rfl) ?_
  refine l_x rfl (x_mv rfl) ?_
  refine l_call [] [] [_, _, _, _] rfl rfl Tryz.call33 rfl (c_rTouched rs vl a b day _ (hD.le S23.le)) ?_
  rintro v5624 w24 ⟨hN5624, hl5624⟩
  have S25 := S23.add hl5624 hN5624
  refine l_call [] [] [_, _] rfl rfl Tryz.call31 rfl ((c_SameInts _ _ _ _ (by have := tou_len9 (dl rs) a b day; omega) _ (vec_rd (S25.at 4 rfl)) (vec_rd (S25.at 5 rfl))).mono (fun v w' h => (⟨h.1.trans (congrArg Value.bool (decide_eq_true rfl)), h.2⟩ : v = .bool true ∧ Le _ w'))) ?_
  rintro _ w26 ⟨rfl, hl28⟩
  have S27 := S25.step hl28
  refine l_x rfl (x_pick_t rfl rfl) ?_
  refine l_x rfl (x_as rfl) ?_
  refine l_nil ?_
  refine r_ret (rs := [.tmp 10]) [_] Tryz.func5 rfl ⟨rfl, trivial⟩ ?_
  exact ⟨rfl, S27.le⟩

end Go.Proofs
