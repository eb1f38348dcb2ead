/- Texts joined for claims: LLineages. -/
import Derived.Test.YtdikpjkdbgfoaaaGreatKda7ddac145
import Derived.Test.YtdikpjkdbgfoaaaGreatKe780c7f77a
import Derived.Test.YtdikpjkdbgfoaaaGreatKf9988f86e5
set_option linter.unusedVariables false
set_option linter.unusedSimpArgs false
set_option linter.unusedSectionVars false
namespace Go.Proofs
open Go Go.Vk Go.Vk.Flow

open Go.Vk.Deed
theorem lin_len9 (l : List D) (known day o : Int) : (lineageD l known day o).length ≤ 1000000 := by
 unfold lineageD
 split
 ·next h =>
  have hP : Part (counting l known).length (startL l (counting l known) day o) := ⟨_, rfl⟩
  have h1 := nodup_le (part_nd (lin_part (l := l) hP (counting l known).length)) fun k hk => List.mem_range.2 (part_lt (lin_part (l := l) hP (counting l known).length) k hk)
  rw [List.length_range] at h1
  have h2 := count_len (known := known) h.1
  unfold Go.Vk.Deed.asc
  rw [List.length_mergeSort, List.length_map]
  exact Nat.le_trans h1 (by omega)
 exact Nat.zero_le _
theorem mov_len9 (l : List D) (known day o : Int) : (movesD l known day o).length ≤ 400 := by
 unfold movesD
 split
 ·next h =>
  unfold Go.Vk.Deed.asc
  rw [List.length_mergeSort, List.length_map]
  exact Nat.le_trans (List.length_filter_le _ _) (count_len h)
 exact Nat.zero_le _
theorem only_len9 (l : List D) (known day : Int) (is : List Int) : (onlyD l known day is).length ≤ 40 := by
 unfold onlyD
 split
 ·exact accs_len _ _
 exact Nat.zero_le _

set_option maxHeartbeats 4000000 in
theorem lawLineages (rs : List Rw) (vl : Value) (known day o : Int) (is : List Int) (vi : Value) (w : World) (hD : DsR 26 3 w vl rs) (hL : Rd EI w vi is) :
  Cl Tryz.prog 19 #[vl, .int .i64 known, .int .i64 day, .int .i64 o, vi] w fun v w' => v = .bool true ∧ Le w w' := by
 refine fn_of_run (args := [_, _, _, _, _]) 68 Tryz.func19 rfl rfl rfl fun cs => ?_
 have S := Own.start (X := nob) w
 refine r_seq ?_
 refine r_region ?_
 refine l_a rfl ?_
 refine l_nil ?_
 refine r_seq ?_
 refine r_seq ?_
 refine r_region ?_
 refine l_m rfl ?_
 refine l_call [] [] [_] rfl rfl Tryz.call25 rfl (c_few rs _ _ (hD.le S.le)) ?_
 rintro _ w1 ⟨rfl, hl3⟩
 have S2 := S.step hl3
 refine l_x rfl (x_not rfl) ?_
 refine l_m rfl ?_
 refine l_split (d := 18) rfl (fun hg18 => ?_) (fun hg18 => ?_)
 ·skip
  refine l_pass rfl ?_
  refine l_pass rfl ?_
  refine l_pass rfl ?_
  refine l_x rfl (x_pick_t rfl rfl) ?_
  refine l_nil ?_
  refine r_true rfl ?_
  refine r_seq ?_
  refine r_region ?_
  refine l_call [] [] [] rfl rfl Tryz.call23 rfl (c_enteredX _) ?_
  rintro _ w4 ⟨rfl, hl6⟩
  have S5 := S2.step hl6
  refine l_a rfl ?_
  refine l_nil ?_
  refine r_ret (rs := [.tmp 10]) [_] Tryz.func19 rfl ⟨rfl, trivial⟩ ?_
  exact ⟨rfl, S5.le⟩
 refine l_m rfl ?_
 refine l_x rfl (x_len (hL.le S2.le) rfl Tryz.runUnderlying24) ?_
 refine l_x rfl (x_gtr rfl rfl) ?_
 refine l_x rfl (x_pick_f rfl rfl) ?_
 refine l_nil ?_
 refine r_ifd rfl (fun hc22 => ?_) (fun hc22 => ?_)
 ·skip
  refine r_seq ?_
  refine r_region ?_
  refine l_call [] [] [] rfl rfl Tryz.call23 rfl (c_enteredX _) ?_
  rintro _ w7 ⟨rfl, hl9⟩
  have S8 := S2.step hl9
  refine l_a rfl ?_
  refine l_nil ?_
  refine r_ret (rs := [.tmp 10]) [_] Tryz.func19 rfl ⟨rfl, trivial⟩ ?_
  exact ⟨rfl, S8.le⟩
 refine r_skip ?_
 refine r_seq ?_
 refine r_region ?_
 refine l_m rfl ?_
 refine l_m rfl ?_
 refine l_m rfl ?_
 refine l_m rfl ?_
 refine l_call [] [] [_, _, _, _] rfl rfl Tryz.call44 rfl (c_Lineage rs vl known day o _ (hD.le S2.le)) ?_
 rintro v2810 w10 ⟨hN2810, hl2810⟩
 have S11 := S2.add hl2810 hN2810
 refine l_a rfl ?_
 refine l_nil ?_
 refine r_seq ?_
 refine r_region ?_
 refine l_m rfl ?_
 refine l_m rfl ?_
 refine l_m rfl ?_
 refine l_m rfl ?_
 refine l_call [] [] [_, _, _, _] rfl rfl Tryz.call74 rfl (c_rLineage rs vl known day o _ (hD.le S11.le)) ?_
 rintro v3312 w12 ⟨hN3312, hl3312⟩
 have S13 := S11.add hl3312 hN3312
 refine l_a rfl ?_
 refine l_nil ?_
 refine r_seq ?_
 refine r_region ?_
 refine l_m rfl ?_
 refine l_m rfl ?_
 refine l_m rfl ?_
 refine l_m rfl ?_
 refine l_call [] [] [_, _, _, _] rfl rfl Tryz.call75 rfl (c_Moves rs vl known day o _ (hD.le S13.le)) ?_
 rintro v3814 w14 ⟨hN3814, hl3814⟩
 have S15 := S13.add hl3814 hN3814
 refine l_a rfl ?_
 refine l_nil ?_
 refine r_seq ?_
 refine r_region ?_
 refine l_m rfl ?_
 refine l_m rfl ?_
 refine l_m rfl ?_
 refine l_m rfl ?_
 refine l_call [] [] [_, _, _, _] rfl rfl Tryz.call76 rfl (c_rMoves rs vl known day o _ (hD.le S15.le)) ?_
 rintro v4316 w16 ⟨hN4316, hl4316⟩
 have S17 := S15.add hl4316 hN4316
 refine l_a rfl ?_
 refine l_nil ?_
 refine r_seq ?_
 refine r_region ?_
 refine l_call [] [] [] rfl rfl Tryz.call23 rfl (c_enteredX _) ?_
 rintro _ w18 ⟨rfl, hl20⟩
 have S19 := S17.step hl20
 refine l_m rfl ?_
 refine l_m rfl ?_
 refine l_m rfl ?_
 refine l_call [] [] [_, _] rfl rfl Tryz.call31 rfl ((c_SameInts _ _ _ _ (by have := lin_len9 (dl rs) known day o; omega) _ (vec_rd (S19.at 0 rfl)) (vec_rd (S19.at 1 rfl))).mono (fun v w' h => (⟨h.1.trans (congrArg Value.bool (decide_eq_true rfl)), h.2⟩ : v = .bool true ∧ Le _ w'))) ?_
 rintro _ w21 ⟨rfl, hl23⟩
 have S22 := S19.step hl23
 refine l_x rfl (x_pick_t rfl rfl) ?_
 refine l_m rfl ?_
 refine l_m rfl ?_
 refine l_m rfl ?_
 refine l_call [] [] [_, _] rfl rfl Tryz.call31 rfl ((c_SameInts _ _ _ _ (by have := mov_len9 (dl rs) known day o; omega) _ (vec_rd (S22.at 2 rfl)) (vec_rd (S22.at 3 rfl))).mono (fun v w' h => (⟨h.1.trans (congrArg Value.bool (decide_eq_true rfl)), h.2⟩ : v = .bool true ∧ Le _ w'))) ?_
 rintro _ w24 ⟨rfl, hl26⟩
 have S25 := S22.step hl26
 refine l_x rfl (x_pick_t rfl rfl) ?_
 refine l_m rfl ?_
 refine l_m rfl ?_
 refine l_m rfl ?_
 refine l_m rfl ?_
 refine l_m rfl ?_
 refine l_call [] [] [_, _, _, _] rfl rfl Tryz.call73 rfl (c_Only rs vl known day is vi (by omega) _ (hD.le S25.le) (hL.le S25.le)) ?_
 rintro v6027 w27 ⟨hN6027, hl6027⟩
 have S28 := S25.add hl6027 hN6027
 refine l_m rfl ?_
 refine l_m rfl ?_
 refine l_m rfl ?_
 refine l_m rfl ?_
 refine l_call [] [] [_, _, _, _] rfl rfl Tryz.call77 rfl (c_rOnly rs vl known day is vi (by omega) _ (hD.le S28.le) (hL.le S28.le)) ?_
 rintro v6529 w29 ⟨hN6529, hl6529⟩
 have S30 := S28.add hl6529 hN6529
 refine l_call [] [] [_, _] rfl rfl Tryz.call60 rfl ((c_SameAccounts _ _ _ _ (by have := only_len9 (dl rs) known day is; omega) _ (vec_rd (S30.at 4 rfl)) (vec_rd (S30.at 5 rfl))).mono (fun v w' h => (⟨h.1.trans (congrArg Value.bool (decide_eq_true rfl)), h.2⟩ : v = .bool true ∧ Le _ w'))) ?_
 rintro _ w31 ⟨rfl, hl33⟩
 have S32 := S30.step hl33
 refine l_x rfl (x_pick_t rfl rfl) ?_
 refine l_a rfl ?_
 refine l_nil ?_
 refine r_ret (rs := [.tmp 10]) [_] Tryz.func19 rfl ⟨rfl, trivial⟩ ?_
 exact ⟨rfl, S32.le⟩

end Go.Proofs
