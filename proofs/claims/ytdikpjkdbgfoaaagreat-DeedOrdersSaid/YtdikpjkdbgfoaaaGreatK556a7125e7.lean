/- Texts joined for claims: LOrders. -/
import Derived.Test.YtdikpjkdbgfoaaaGreatK04f2f898c3
import Derived.Test.YtdikpjkdbgfoaaaGreatKa412596e49
import Derived.Test.YtdikpjkdbgfoaaaGreatKc428f52d18
set_option linter.unusedVariables false
set_option linter.unusedSimpArgs false
set_option linter.unusedSectionVars false
/-
  Contracts of functions of the program: each by symbolic execution of its text.
-/
namespace Go.Proofs
open Go Go.Vk Go.Vk.Flow

open Go.Vk.Deed
theorem late_len9 (l : List D) : (lateD l).length ≤ l.length := by
  unfold lateD
  split
  · rw [List.length_map]; exact List.length_filter_le _ _
  exact Nat.zero_le _
theorem few_len9 {rs : List Rw} (h : fewB (dl rs) = true) : rs.length ≤ 24 := by
  rw [fewB, Bool.and_eq_true, decide_eq_true_iff, dl_len] at h
  exact h.1

set_option maxHeartbeats 4000000 in
/-- couchant/couchantlaw02.DeedOrders. -/
theorem lawOrders (rs : List Rw) (vl : Value) (known : Int) (w : World) (hD : DsR 26 3 w vl rs) :
    Cl Tryz.prog 9 #[vl, .int .i64 known] w fun v w' => v = .bool true ∧ Le w w' := by
  refine fn_of_run (args := [_, _]) 35 Tryz.func9 rfl rfl rfl fun cs => ?_
  have S := Own.start (X := nob) w
  refine r_seq ?_
  refine r_region ?_
  refine l_x rfl (x_as rfl) ?_
  refine l_nil ?_
  refine r_seq ?_
  refine r_seq ?_
  refine r_region ?_
  refine l_x rfl (x_mv rfl) ?_
  refine l_call [] [] [_] rfl rfl Tryz.call25 rfl (c_few rs _ _ (hD.le S.le)) ?_
  rintro _ w1 ⟨rfl, hl3⟩
  have S2 := S.step hl3
  refine l_x rfl (x_not rfl) ?_
  refine l_nil ?_
  refine r_if rfl (fun hc7 => ?_) (fun hc7 => ?_)
  · skip
    refine r_seq ?_
    refine r_region ?_
    refine l_call [] [] [] rfl rfl Tryz.call23 rfl (c_enteredX _) ?_
    rintro _ w4 ⟨rfl, hl6⟩
    have S5 := S2.step hl6
    refine l_x rfl (x_as rfl) ?_
    refine l_nil ?_
    refine r_ret (rs := [.tmp 4]) [_] Tryz.func9 rfl ⟨rfl, trivial⟩ ?_
    exact ⟨rfl, S5.le⟩
  have hF : fewB (dl rs) = true := by simpa using hc7
  have hl24 := few_len9 hF
  refine r_skip ?_
  refine r_seq ?_
  refine r_region ?_
  refine l_call [] [] [] rfl rfl Tryz.call23 rfl (c_enteredX _) ?_
  rintro _ w7 ⟨rfl, hl9⟩
  have S8 := S2.step hl9
  refine l_x rfl (x_mv rfl) ?_
  refine l_x rfl (x_mv rfl) ?_
  refine l_x rfl (x_mv rfl) ?_
  refine l_call [] [] [_, _] rfl rfl Tryz.call49 rfl (c_Counting rs vl known _ (hD.le S8.le)) ?_
  rintro v1310 w10 ⟨rqA, hqA, hO1310⟩
  have S11 := S8.join hO1310
  have hpA := ctg_play hqA
  have hlA := ctg_len hqA
  refine l_x rfl (x_mv rfl) ?_
  refine l_x rfl (x_mv rfl) ?_
  refine l_call [] [] [_, _] rfl rfl Tryz.call50 rfl (c_rCounting rs vl known _ (hD.le S11.le)) ?_
  rintro v1612 w12 ⟨rq1612, hq1612, hm1612, hN1612, hl1612⟩
  have S13 := S11.add hl1612 hN1612
  obtain ⟨rq, hrqe⟩ : ∃ q, q = rq1612 := ⟨_, rfl⟩
  subst hrqe
  have hqq := hq1612
  have hqm := hm1612
  have hlq := ctg_len hqq
  obtain ⟨hqp, hqs⟩ := ctg_play hqq
  refine l_call [] [] [_, _] rfl rfl Tryz.call46 rfl ((c_SameDeeds rqA rq _ _ _ (dnest_dsr ((S13).at 0 rfl) ((S13).at 1 rfl) (fun a ha => by have := lens_of hpA.1.f a ha; omega) (by omega)) (hD.mem (S13).le (vec_rd ((S13).at 2 rfl)) hqm (by omega))).mono (fun v w' h => (⟨h.1.trans (congrArg Value.bool (decide_eq_true (hqA.trans hqq.symm))), h.2⟩ : v = .bool true ∧ Le _ w'))) ?_
  rintro _ w14 ⟨rfl, hl16⟩
  have S15 := S13.step hl16
  refine l_x rfl (x_pick_t rfl rfl) ?_
  refine l_x rfl (x_mv rfl) ?_
  refine l_x rfl (x_mv rfl) ?_
  refine l_x rfl (x_mv rfl) ?_
  refine l_call [] [] [_, _] rfl rfl Tryz.call51 rfl (c_Idle rs vl known _ (hD.le S15.le)) ?_
  rintro v2217 w17 ⟨hN2217, hl2217⟩
  have S18 := S15.add hl2217 hN2217
  refine l_x rfl (x_mv rfl) ?_
  refine l_x rfl (x_mv rfl) ?_
  refine l_call [] [] [_, _] rfl rfl Tryz.call52 rfl (c_rIdle rs vl known _ (hD.le S18.le)) ?_
  rintro v2519 w19 ⟨hN2519, hl2519⟩
  have S20 := S18.add hl2519 hN2519
  refine l_call [] [] [_, _] rfl rfl Tryz.call31 rfl ((c_SameInts _ _ _ _ (by have := idle_len (dl rs) known; omega) _ (vec_rd (S20.at 3 rfl)) (vec_rd (S20.at 4 rfl))).mono (fun v w' h => (⟨h.1.trans (congrArg Value.bool (decide_eq_true rfl)), h.2⟩ : v = .bool true ∧ Le _ w'))) ?_
  rintro _ w21 ⟨rfl, hl23⟩
  have S22 := S20.step hl23
  refine l_x rfl (x_pick_t rfl rfl) ?_
  refine l_x rfl (x_mv rfl) ?_
  refine l_x rfl (x_mv rfl) ?_
  refine l_call [] [] [_] rfl rfl Tryz.call53 rfl (c_Late rs vl (by omega) _ (hD.le S22.le)) ?_
  rintro v3024 w24 ⟨hN3024, hl3024⟩
  have S25 := S22.add hl3024 hN3024
  refine l_x rfl (x_mv rfl) ?_
  refine l_call [] [] [_] rfl rfl Tryz.call54 rfl (c_rLate rs vl (by omega) _ (hD.le S25.le)) ?_
  rintro v3226 w26 ⟨hN3226, hl3226⟩
  have S27 := S25.add hl3226 hN3226
  refine l_call [] [] [_, _] rfl rfl Tryz.call31 rfl ((c_SameInts _ _ _ _ (by have := late_len9 (dl rs); rw [dl_len] at this; omega) _ (vec_rd (S27.at 5 rfl)) (vec_rd (S27.at 6 rfl))).mono (fun v w' h => (⟨h.1.trans (congrArg Value.bool (decide_eq_true rfl)), h.2⟩ : v = .bool true ∧ Le _ w'))) ?_
  rintro _ w28 ⟨rfl, hl30⟩
  have S29 := S27.step hl30
  refine l_x rfl (x_pick_t rfl rfl) ?_
  refine l_x rfl (x_as rfl) ?_
  refine l_nil ?_
  refine r_ret (rs := [.tmp 4]) [_] Tryz.func9 rfl ⟨rfl, trivial⟩ ?_
  exact ⟨rfl, S29.le⟩

end Go.Proofs
