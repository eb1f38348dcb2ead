/- Texts joined for claims: LLists. -/
import Derived.Test.YtdikpjkdbgfoaaaGreatK787000484c
import Derived.Test.YtdikpjkdbgfoaaaGreatK162766f591
import Derived.Test.YtdikpjkdbgfoaaaGreatKa0b28afff3
set_option linter.unusedVariables false
set_option linter.unusedSimpArgs false
set_option linter.unusedSectionVars false
namespace Go.Proofs
open Go Go.Vk Go.Vk.Flow

open Go.Vk.Deed
theorem few_len8 {rs : List Rw} (h : fewB (dl rs) = true) : rs.length ≤ 24 := by
 rw [fewB, Bool.and_eq_true, decide_eq_true_iff, dl_len] at h
 exact h.1

set_option maxHeartbeats 4000000 in
theorem lawLists (rs : List Rw) (vl : Value) (known day : Int) (w : World) (hD : DsR 26 3 w vl rs) :
  Cl Tryz.prog 14 #[vl, .int .i64 known, .int .i64 day] w fun v w' => v = .bool true ∧ Le w w' := by
 refine fn_of_run (args := [_, _, _]) 34 Tryz.func14 rfl rfl rfl fun cs => ?_
 have S := Own.start (X := nob) w
 refine r_seq ?_
 refine r_region ?_
 refine l_a rfl ?_
 refine l_nil ?_
 refine r_seq ?_
 refine r_seq ?_
 refine r_region ?_
 refine l_m rfl ?_
 refine l_call [] [] [_] rfl rfl Tryz.call25 rfl (c_few rs _ _ (hD.le S.le)) ?_
 rintro _ w1 ⟨rfl, hl3⟩
 have S2 := S.step hl3
 refine l_x rfl (x_not rfl) ?_
 refine l_nil ?_
 refine r_if rfl (fun hc9 => ?_) (fun hc9 => ?_)
 ·skip
  refine r_seq ?_
  refine r_region ?_
  refine l_call [] [] [] rfl rfl Tryz.call23 rfl (c_enteredX _) ?_
  rintro _ w4 ⟨rfl, hl6⟩
  have S5 := S2.step hl6
  refine l_a rfl ?_
  refine l_nil ?_
  refine r_ret (rs := [.tmp 6]) [_] Tryz.func14 rfl ⟨rfl, trivial⟩ ?_
  exact ⟨rfl, S5.le⟩
 have hF : fewB (dl rs) = true := by simpa using hc9
 have hl24 := few_len8 hF
 refine r_skip ?_
 refine r_seq ?_
 refine r_region ?_
 refine l_call [] [] [] rfl rfl Tryz.call23 rfl (c_enteredX _) ?_
 rintro _ w7 ⟨rfl, hl9⟩
 have S8 := S2.step hl9
 refine l_m rfl ?_
 refine l_m rfl ?_
 refine l_m rfl ?_
 refine l_m rfl ?_
 refine l_call [] [] [_, _, _] rfl rfl Tryz.call68 rfl (c_Leases rs vl known day _ (hD.le S8.le)) ?_
 rintro v1610 w10 ⟨hN1610, hl1610⟩
 have S11 := S8.add hl1610 hN1610
 refine l_m rfl ?_
 refine l_m rfl ?_
 refine l_m rfl ?_
 refine l_call [] [] [_, _, _] rfl rfl Tryz.call69 rfl (c_rLeases rs vl known day (by omega) _ (hD.le S11.le)) ?_
 rintro v2012 w12 ⟨hN2012, hl2012⟩
 have S13 := S11.add hl2012 hN2012
 refine l_call [] [] [_, _] rfl rfl Tryz.call67 rfl ((c_SameLeases _ _ _ _ (by have := ls_len (dl rs) known day; omega) _ (vec_rd (S13.at 0 rfl)) (vec_rd (S13.at 1 rfl))).mono (fun v w' h => (⟨h.1.trans (congrArg Value.bool (decide_eq_true rfl)), h.2⟩ : v = .bool true ∧ Le _ w'))) ?_
 rintro _ w14 ⟨rfl, hl16⟩
 have S15 := S13.step hl16
 refine l_x rfl (x_pick_t rfl rfl) ?_
 refine l_m rfl ?_
 refine l_m rfl ?_
 refine l_m rfl ?_
 refine l_m rfl ?_
 refine l_call [] [] [_, _, _] rfl rfl Tryz.call71 rfl (c_Pledges rs vl known day _ (hD.le S15.le)) ?_
 rintro v2717 w17 ⟨hN2717, hl2717⟩
 have S18 := S15.add hl2717 hN2717
 refine l_m rfl ?_
 refine l_m rfl ?_
 refine l_m rfl ?_
 refine l_call [] [] [_, _, _] rfl rfl Tryz.call72 rfl (c_rPledges rs vl known day (by omega) _ (hD.le S18.le)) ?_
 rintro v3119 w19 ⟨hN3119, hl3119⟩
 have S20 := S18.add hl3119 hN3119
 refine l_call [] [] [_, _] rfl rfl Tryz.call70 rfl ((c_SamePledges _ _ _ _ (by have := ps_len (dl rs) known day; omega) _ (vec_rd (S20.at 2 rfl)) (vec_rd (S20.at 3 rfl))).mono (fun v w' h => (⟨h.1.trans (congrArg Value.bool (decide_eq_true rfl)), h.2⟩ : v = .bool true ∧ Le _ w'))) ?_
 rintro _ w21 ⟨rfl, hl23⟩
 have S22 := S20.step hl23
 refine l_x rfl (x_pick_t rfl rfl) ?_
 refine l_a rfl ?_
 refine l_nil ?_
 refine r_ret (rs := [.tmp 6]) [_] Tryz.func14 rfl ⟨rfl, trivial⟩ ?_
 exact ⟨rfl, S22.le⟩

end Go.Proofs
