/- Texts joined for claims: LAccounts. -/
import Derived.Test.YtdikpjkdbgfoaaaGreatKa7049ade6d
import Derived.Test.YtdikpjkdbgfoaaaGreatK2e8c837484
import Derived.Test.YtdikpjkdbgfoaaaGreatK35286b4c24
set_option linter.unusedVariables false
set_option linter.unusedSimpArgs false
set_option linter.unusedSectionVars false
/-
  Contracts of functions of the program: each by symbolic execution of its text.
-/
namespace Go.Proofs
open Go Go.Vk Go.Vk.Flow

open Go.Vk.Deed

set_option maxHeartbeats 4000000 in
/-- couchant/couchantlaw02.DeedAccounts. -/
theorem lawAccounts (rs : List Rw) (vl : Value) (known day o : Int) (w : World) (hD : DsR 26 3 w vl rs) :
    Cl Tryz.prog 13 #[vl, .int .i64 known, .int .i64 day, .int .i64 o] w fun v w' => v = .bool true ∧ Le w w' := by
  refine fn_of_run (args := [_, _, _, _]) 74 Tryz.func13 rfl rfl rfl fun cs => ?_
  have S := Own.start (X := nob) w
  refine r_seq ?_
  refine r_region ?_
  refine l_x rfl (x_as rfl) ?_
  refine l_nil ?_
  refine r_seq ?_
  refine r_seq ?_
  refine r_region ?_
  refine l_x rfl (x_mv rfl) ?_
  refine l_call [] [] [_] rfl rfl Tryz.call25 rfl (c_few rs _ _ (hD.le S.le)) ?_
  rintro _ w1 ⟨rfl, hl3⟩
  have S2 := S.step hl3
  refine l_x rfl (x_not rfl) ?_
  refine l_nil ?_
  refine r_if rfl (fun hc11 => ?_) (fun hc11 => ?_)
  · skip
    refine r_seq ?_
    refine r_region ?_
    refine l_call [] [] [] rfl rfl Tryz.call23 rfl (c_enteredX _) ?_
    rintro _ w4 ⟨rfl, hl6⟩
    have S5 := S2.step hl6
    refine l_x rfl (x_as rfl) ?_
    refine l_nil ?_
    refine r_ret (rs := [.tmp 8]) [_] Tryz.func13 rfl ⟨rfl, trivial⟩ ?_
    exact ⟨by first | rfl | exact congrArg Value.bool (decide_eq_true rfl), S5.le⟩
  refine r_skip ?_
  refine r_seq ?_
  refine r_seq ?_
  refine r_region ?_
  refine l_x rfl (x_mv rfl) ?_
  refine l_x rfl (x_mv rfl) ?_
  refine l_x rfl (x_mv rfl) ?_
  refine l_call [] [] [_, _, _] rfl rfl Tryz.call61 rfl (c_Accounts rs vl known day _ (hD.le S2.le)) ?_
  rintro v167 w7 ⟨hN167, hl167⟩
  have S8 := S2.add hl167 hN167
  refine l_x rfl (x_mv rfl) ?_
  refine l_x rfl (x_mv rfl) ?_
  refine l_x rfl (x_mv rfl) ?_
  refine l_call [] [] [_, _, _] rfl rfl Tryz.call62 rfl (c_rAccounts rs vl known day _ (hD.le S8.le)) ?_
  rintro v209 w9 ⟨hN209, hl209⟩
  have S10 := S8.add hl209 hN209
  refine l_call [] [] [_, _] rfl rfl Tryz.call60 rfl ((c_SameAccounts _ _ _ _ (by have := accs_len (onD (dl rs) known day) day; omega) _ (vec_rd (S10.at 0 rfl)) (vec_rd (S10.at 1 rfl))).mono (fun v w' h => (⟨h.1.trans (congrArg Value.bool (decide_eq_true rfl)), h.2⟩ : v = .bool true ∧ Le _ w'))) ?_
  rintro _ w11 ⟨rfl, hl13⟩
  have S12 := S10.step hl13
  refine l_x rfl (x_not rfl) ?_
  refine l_x rfl (x_mv rfl) ?_
  refine l_x rfl (x_mv rfl) ?_
  refine l_x rfl (x_mv rfl) ?_
  refine l_x rfl (x_mv rfl) ?_
  refine l_x rfl (x_mv rfl) ?_
  refine l_call [] [] [_, _, _, _] rfl rfl Tryz.call55 rfl (c_AccountOf rs vl known day o _ (hD.le S12.le)) ?_
  rintro _ w14 ⟨rfl, hl16⟩
  have S15 := S12.step hl16
  refine l_x rfl (x_mv rfl) ?_
  refine l_x rfl (x_mv rfl) ?_
  refine l_x rfl (x_mv rfl) ?_
  refine l_x rfl (x_mv rfl) ?_
  refine l_call [] [] [_, _, _, _] rfl rfl Tryz.call63 rfl (c_rAccountOf rs vl known day o _ (hD.le S15.le)) ?_
  rintro _ w17 ⟨rfl, hl19⟩
  have S18 := S15.step hl19
  refine l_x rfl (x_neAc rfl rfl) ?_
  refine l_x rfl (x_pick_f rfl rfl) ?_
  refine l_nil ?_
  refine r_ifd rfl (fun hc35 => ?_) (fun hc35 => ?_)
  · exact absurd rfl hc35
  refine r_skip ?_
  refine r_seq ?_
  refine r_region ?_
  refine l_call [] [] [] rfl rfl Tryz.call23 rfl (c_enteredX _) ?_
  rintro _ w20 ⟨rfl, hl22⟩
  have S21 := S18.step hl22
  refine l_x rfl (x_mv rfl) ?_
  refine l_x rfl (x_mv rfl) ?_
  refine l_x rfl (x_mv rfl) ?_
  refine l_x rfl (x_mv rfl) ?_
  refine l_x rfl (x_mv rfl) ?_
  refine l_call [] [] [_, _, _, _] rfl rfl Tryz.call36 rfl (c_Uses rs vl known day o _ (hD.le S21.le)) ?_
  rintro _ w23 ⟨rfl, hl25⟩
  have S24 := S21.step hl25
  refine l_x rfl (x_mv rfl) ?_
  refine l_x rfl (x_mv rfl) ?_
  refine l_x rfl (x_mv rfl) ?_
  refine l_x rfl (x_mv rfl) ?_
  refine l_call [] [] [_, _, _, _] rfl rfl Tryz.call64 rfl (c_rUses rs vl known day o _ (hD.le S24.le)) ?_
  rintro _ w26 ⟨rfl, hl28⟩
  have S27 := S24.step hl28
  refine l_x rfl (x_eql rfl rfl) ?_
  refine l_x rfl (x_pick_t rfl rfl) ?_
  refine l_x rfl (x_mv rfl) ?_
  refine l_splitd (d := 50) rfl (fun hg50 => ?_) (fun hg50 => ?_)
  · skip
    refine l_x rfl (x_mv rfl) ?_
    refine l_x rfl (x_mv rfl) ?_
    refine l_x rfl (x_mv rfl) ?_
    refine l_x rfl (x_mv rfl) ?_
    refine l_call [] [] [_, _, _, _] rfl rfl Tryz.call56 rfl (c_Free rs vl known day o _ (hD.le S27.le)) ?_
    rintro _ w29 ⟨rfl, hl31⟩
    have S30 := S27.step hl31
    refine l_x rfl (x_mv rfl) ?_
    refine l_x rfl (x_mv rfl) ?_
    refine l_x rfl (x_mv rfl) ?_
    refine l_x rfl (x_mv rfl) ?_
    refine l_call [] [] [_, _, _, _] rfl rfl Tryz.call65 rfl (c_rFree rs vl known day o _ (hD.le S30.le)) ?_
    rintro _ w32 ⟨rfl, hl34⟩
    have S33 := S30.step hl34
    refine l_x rfl (x_eql rfl rfl) ?_
    refine l_x rfl (x_pick_t rfl rfl) ?_
    refine l_x rfl (x_mv rfl) ?_
    refine l_splitd (d := 63) rfl (fun hg63 => ?_) (fun hg63 => ?_)
    · skip
      refine l_x rfl (x_mv rfl) ?_
      refine l_x rfl (x_mv rfl) ?_
      refine l_x rfl (x_mv rfl) ?_
      refine l_call [] [] [_, _, _] rfl rfl Tryz.call24 rfl (c_Total rs vl known day _ (hD.le S33.le)) ?_
      rintro _ w35 ⟨rfl, hl37⟩
      have S36 := S33.step hl37
      refine l_x rfl (x_mv rfl) ?_
      refine l_x rfl (x_mv rfl) ?_
      refine l_x rfl (x_mv rfl) ?_
      refine l_call [] [] [_, _, _] rfl rfl Tryz.call66 rfl (c_rTotal rs vl known day _ (hD.le S36.le)) ?_
      rintro _ w38 ⟨rfl, hl40⟩
      have S39 := S36.step hl40
      refine l_x rfl (x_eql rfl rfl) ?_
      refine l_x rfl (x_pick_t rfl rfl) ?_
      refine l_x rfl (x_as rfl) ?_
      refine l_nil ?_
      refine r_ret (rs := [.tmp 8]) [_] Tryz.func13 rfl ⟨rfl, trivial⟩ ?_
      exact ⟨by first | rfl | exact congrArg Value.bool (decide_eq_true rfl), S39.le⟩
    exact absurd rfl hg63
  exact absurd rfl hg50

end Go.Proofs
