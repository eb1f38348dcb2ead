/- Texts joined for claims: LStints. -/
import Derived.Test.YtlegfcmlfhlokaaGreatK96cfb22e54
import Derived.Test.YtlegfcmlfhlokaaGreatKf81400a4ea
import Derived.Test.YtlegfcmlfhlokaaGreatK9d43d13e38
set_option linter.unusedVariables false
set_option linter.unusedSimpArgs false
set_option linter.unusedSectionVars false
/-
  Contracts of functions of the program: each by symbolic execution of its text.
-/
namespace Go.Proofs
open Go Go.Vk Go.Vk.Flow

open Go.Vk.Deed Go.Vk.Share

theorem not_take {l : List Int} {j : Nat} {x w : Int} (h : w ∉ l.take j) (hx : l[j]? = some x) (hn : w ≠ x) : w ∉ l.take (j + 1) := by
  rw [List.take_add_one, hx]
  intro g
  rcases List.mem_append.1 g with g | g
  · exact h g
  simp at g; exact hn g

set_option maxHeartbeats 8000000 in
/-- couchant/couchanttop.TopStints. -/
theorem lawStints (rs : List Rw) (vl : Value) (known day owner which : Int) (w : World) (hD : DsR 45 3 w vl rs) :
    Cl Tryz.prog 4 #[vl, .int .i64 known, .int .i64 day, .int .i64 owner, .int .i64 which] w fun v w' => v = .bool true ∧ Le w w' := by
  have hlm := hD.lm
  refine fn_of_run (args := [_, _, _, _, _]) 168 Tryz.func4 rfl rfl rfl fun cs => ?_
  have S := Own.start (X := nob) w
  refine r_seq ?_
  refine r_region ?_
  refine l_x rfl (x_as rfl) ?_
  refine l_nil ?_
  refine r_seq ?_
  refine r_seq ?_
  refine r_region ?_
  refine l_x rfl (x_mv rfl) ?_
  refine l_call [] [] [_] rfl rfl Tryz.call6 rfl (c_deeds rs _ _ (hD.le S.le)) ?_
  rintro _ w1 ⟨rfl, hl3⟩
  have S2 := S.step hl3
  refine l_x rfl (x_not rfl) ?_
  refine l_nil ?_
  refine r_if rfl (fun hc30 => ?_) (fun hc30 => ?_)
  · skip
    refine r_seq ?_
    refine r_region ?_
    refine l_call [] [] [] rfl rfl Tryz.call7 rfl (c_inherited _) ?_
    rintro _ w4 ⟨rfl, hl6⟩
    have S5 := S2.step hl6
    refine l_x rfl (x_as rfl) ?_
    refine l_nil ?_
    refine r_ret (rs := [.tmp 10]) [_] Tryz.func4 rfl ⟨rfl, trivial⟩ ?_
    exact ⟨rfl, S5.le⟩
  refine r_skip ?_
  refine r_seq ?_
  refine r_region ?_
  refine l_x rfl (x_mv rfl) ?_
  refine l_call [] [] [_] rfl rfl Tryz.call13 rfl (c_Check rs _ _ (hD.le S2.le)) ?_
  rintro _ w7 ⟨rfl, hl9⟩
  have S8 := S2.step hl9
  refine l_x rfl (x_mv rfl) ?_
  refine l_x rfl (x_extract rfl rfl) ?_
  refine l_x rfl (x_extract rfl rfl) ?_
  refine l_x rfl (x_as rfl) ?_
  refine l_x rfl (x_as rfl) ?_
  refine l_nil ?_
  refine r_seq ?_
  refine r_seq ?_
  refine r_region ?_
  refine l_x rfl (x_mv rfl) ?_
  refine l_x rfl (x_neq rfl rfl) ?_
  refine l_nil ?_
  refine r_ifd rfl (fun hc38 => ?_) (fun hc38 => ?_)
  · skip
    refine r_seq ?_
    refine r_region ?_
    refine l_call [] [] [] rfl rfl Tryz.call7 rfl (c_inherited _) ?_
    rintro _ w10 ⟨rfl, hl12⟩
    have S11 := S8.step hl12
    refine l_x rfl (x_as rfl) ?_
    refine l_nil ?_
    refine r_ret (rs := [.tmp 10]) [_] Tryz.func4 rfl ⟨rfl, trivial⟩ ?_
    exact ⟨rfl, S11.le⟩
  have hR : rightD (dl rs) = true := decide_eq_true (Decidable.not_not.1 hc38)
  have hlr := right_len hR
  rw [dl_len] at hlr
  refine r_skip ?_
  refine r_seq ?_
  refine r_region ?_
  refine l_x rfl (x_as rfl) ?_
  have S13 := S8.nilvec (E := EF)
  refine l_nil ?_
  refine r_seq ?_
  refine r_seq ?_
  refine r_region ?_
  refine l_x rfl (x_as rfl) ?_
  refine l_nil ?_
  refine r_block ?_
  refine r_loop (G := Nat × Value) (fun ⟨k, vo⟩ => 40 - k) (fun ⟨k, vo⟩ => [(0, vl), (1, .int .i64 known), (2, .int .i64 day), (3, .int .i64 owner), (4, .int .i64 which), (13, vo), (14, .int .i64 ((k : Int) + 1))]) (fun ⟨k, vo⟩ w' => (k ≤ 40) ∧ Own nob w w' [vec EF vo ((owners.take k).map (fun o => nrm (usesD (dl rs) known day o) 5040))]) (0, .slice none 0 0) ⟨rfl, rfl, rfl, rfl, rfl, rfl, rfl, trivial⟩ ⟨Nat.zero_le _, (S13.take 1)⟩ ?_
  rintro ⟨k, vo⟩ ρ w1 ⟨hk, S1⟩ IH
  refine r_seq ?_
  refine r_seq ?_
  refine r_region ?_
  refine l_x rfl (x_mv rfl) ?_
  refine l_x rfl (x_leq rfl rfl) ?_
  refine l_nil ?_
  refine r_ifd rfl (fun hc41 => ?_) (fun hc41 => ?_)
  · skip
    refine r_skip ?_
    refine r_seq ?_
    refine r_block ?_
    refine r_seq ?_
    refine r_region ?_
    refine l_x rfl (x_mv rfl) ?_
    refine l_x rfl (x_mv rfl) ?_
    refine l_x rfl (x_mv rfl) ?_
    refine l_x rfl (x_mv rfl) ?_
    refine l_call [] [] [_, _, _, _] rfl rfl Tryz.call8 rfl (c_Uses rs vl known day ((k : Int) + 1) _ (hD.le S1.le)) ?_
    rintro _ w14 ⟨rfl, hl16⟩
    have S15 := S1.step hl16
    refine l_call [] [] [_, _] rfl rfl Tryz.call9 rfl (c_Norm _ 5040 (by have := uses_nn (dl rs) known day ((k : Int) + 1); have := uses_le (dl rs) known day ((k : Int) + 1); omega) (by omega) _) ?_
    rintro _ w17 ⟨rfl, hl19⟩
    have S18 := S15.step hl19
    refine l_x rfl (x_mv rfl) ?_
    refine l_x rfl (x_extract rfl rfl) ?_
    refine l_x rfl (x_extract rfl rfl) ?_
    refine l_alloc S18 rfl Tryz.zeroValue28 rfl ?_
    intro b23 w20 S21 hl22
    refine l_stores (vs := [_, _]) S21 1 rfl rfl rfl rfl (ones_cons rfl (ones_cons rfl ones_nil)) Tryz.sizeOf28 (by first | exact Nat.le_refl _ | simp) (splice_all rfl) ?_
    intro w24 S25 hk26
    refine l_x rfl (x_as rfl) ?_
    refine l_nil ?_
    refine r_seq ?_
    refine r_seq ?_
    refine r_region ?_
    refine l_x rfl (x_mv rfl) ?_
    refine l_x rfl (x_neq rfl rfl) ?_
    refine l_nil ?_
    refine r_ifd rfl (fun hc54 => ?_) (fun hc54 => ?_)
    · exact absurd rfl hc54
    refine r_skip ?_
    refine r_region ?_
    refine l_x rfl (x_mv rfl) ?_
    refine l_x rfl (x_load rfl (ld_blks (S25.blk 1 rfl) Tryz.isAgg28 Tryz.sizeOf28 rfl rfl)) ?_
    refine l_buildSlice EF [nrm (usesD (dl rs) known day ((k : Int) + 1)) 5040] S25 rfl Tryz.runUnderlying34 Tryz.sizeOf28 Tryz.zeroValue28 rfl ⟨rfl, rfl, trivial⟩ (Nat.le_of_ble_eq_true rfl) ?_
    intro v30 w27 S28 hl29
    refine l_append EF S28 0 rfl rfl rfl rfl (vec_rd (S28.at 2 rfl)) Tryz.underlying34 info28 rfl rfl rfl (by unfold maxLen; simp; omega) (by show _ * 16 ≤ _; simp; omega) ?_
    intro v34 w31 S32 hk33 hv35
    refine l_x rfl (x_as rfl) ?_
    refine l_nil ?_
    refine r_inBlock ?_
    refine r_region ?_
    refine l_x rfl (x_mv rfl) ?_
    refine l_x rfl (x_add rfl rfl (by omega)) ?_
    refine l_x rfl (x_as rfl) ?_
    refine l_nil ?_
    exact IH (k + 1, v34) _ _ (by dsimp only; omega) ⟨rfl, rfl, rfl, rfl, rfl, rfl, rfl, trivial⟩ ⟨by omega, (by rw [List.take_add_one, owners_get (by omega), List.map_append]; exact S32.take 1)⟩
  obtain rfl : k = 40 := by omega
  rw [List.take_of_length_le (by rw [owners_len]; omega)] at S1
  refine r_exit rfl ?_
  refine r_seq ?_
  refine r_region ?_
  refine l_x rfl (x_mv rfl) ?_
  refine l_call [] [] [_] rfl rfl Tryz.call14 rfl ((c_Sum (owners.map (fun o => nrm (usesD (dl rs) known day o) 5040)) _ (by rw [List.length_map, owners_len]; omega) (fun x hx => by obtain ⟨o, _, rfl⟩ := List.mem_map.1 hx; exact st_valid ⟨uses_nn _ _ _ _, uses_le _ _ _ _⟩) (owner_sums _ fun o => ⟨uses_nn _ _ _ _, uses_le _ _ _ _⟩) _ (vec_rd (S1.at 0 rfl))).mono (fun v w' h => (⟨h.1.trans (by rw [owner_sum, (law_sums hR).2.2.1]), h.2⟩ : v = .tuple #[.agg (encF (nrm (enteredBy (dl rs) known day) 5040)).toArray, .int .i64 0] ∧ Le _ w'))) ?_
  rintro _ w36 ⟨rfl, hl38⟩
  have S37 := S1.step hl38
  refine l_x rfl (x_mv rfl) ?_
  refine l_x rfl (x_extract rfl rfl) ?_
  refine l_x rfl (x_extract rfl rfl) ?_
  refine l_alloc S37 rfl Tryz.zeroValue28 rfl ?_
  intro b42 w39 S40 hl41
  refine l_stores (vs := [_, _]) S40 1 rfl rfl rfl rfl (ones_cons rfl (ones_cons rfl ones_nil)) Tryz.sizeOf28 (by first | exact Nat.le_refl _ | simp) (splice_all rfl) ?_
  intro w43 S44 hk45
  refine l_x rfl (x_as rfl) ?_
  refine l_nil ?_
  refine r_seq ?_
  refine r_region ?_
  refine l_x rfl (x_mv rfl) ?_
  refine l_x rfl (x_mv rfl) ?_
  refine l_x rfl (x_mv rfl) ?_
  refine l_call [] [] [_, _, _] rfl rfl Tryz.call15 rfl ((c_Total rs vl known day _ (hD.le S44.le)).mono (fun v w' h => (⟨h.1.trans (congrArg (Value.int .i64) (law_sums hR).1), h.2⟩ : v = .int .i64 (enteredBy (dl rs) known day) ∧ Le _ w'))) ?_
  rintro _ w46 ⟨rfl, hl48⟩
  have S47 := S44.step hl48
  refine l_call [] [] [_, _] rfl rfl Tryz.call9 rfl (c_Norm _ 5040 (by have := entered_bd (known := known) (day := day) hR; omega) (by omega) _) ?_
  rintro _ w49 ⟨rfl, hl51⟩
  have S50 := S47.step hl51
  refine l_x rfl (x_mv rfl) ?_
  refine l_x rfl (x_extract rfl rfl) ?_
  refine l_x rfl (x_extract rfl rfl) ?_
  refine l_alloc S50 rfl Tryz.zeroValue28 rfl ?_
  intro b55 w52 S53 hl54
  refine l_stores (vs := [_, _]) S53 2 rfl rfl rfl rfl (ones_cons rfl (ones_cons rfl ones_nil)) Tryz.sizeOf28 (by first | exact Nat.le_refl _ | simp) (splice_all rfl) ?_
  intro w56 S57 hk58
  refine l_x rfl (x_as rfl) ?_
  refine l_nil ?_
  refine r_seq ?_
  refine r_region ?_
  refine l_x rfl (x_as rfl) ?_
  refine l_nil ?_
  refine r_seq ?_
  refine r_region ?_
  refine l_x rfl (x_mv rfl) ?_
  refine l_x rfl (x_mv rfl) ?_
  refine l_call [] [] [_, _] rfl rfl Tryz.call16 rfl (c_Counting rs vl known _ (hD.le S57.le)) ?_
  rintro v7459 w59 ⟨rq7459, hq7459, hO7459⟩
  have S60 := S57.join hO7459
  have hqq := hq7459
  rw [if_pos hR] at hqq
  have hlq : rq7459.length ≤ 400 := by rw [← dl_len, hqq]; exact count_len hR
  obtain ⟨rq, hrqe⟩ : ∃ q, q = rq7459 := ⟨_, rfl⟩
  subst hrqe
  have hfq : ∀ x ∈ dl rq, formed x = true := fun x hx => by rw [hqq] at hx; exact right_formed hR (count_sub hx)
  refine l_x rfl (x_as rfl) ?_
  refine l_nil ?_
  refine r_seq ?_
  refine r_seq ?_
  refine r_region ?_
  refine l_x rfl (x_as rfl) ?_
  refine l_nil ?_
  refine r_block ?_
  refine r_loop (G := Nat) (fun i => rq.length - i) (fun i => [(0, vl), (1, .int .i64 known), (2, .int .i64 day), (3, .int .i64 owner), (4, .int .i64 which), (18, .int .i64 0), (20, .int .i64 0), (17, .pointer (some ⟨b42, 0, none⟩)), (19, .pointer (some ⟨b55, 0, none⟩)), (21, .int .i64 (sumI (((dl rq).take i).map (fS day)))), (22, v7459), (23, .int .i64 i)]) (fun i w' => (i ≤ rq.length) ∧ Own nob w w' [blk b42 (encF (nrm (enteredBy (dl rs) known day) 5040)) 28, blk b55 (encF (nrm (enteredBy (dl rs) known day) 5040)) 28, vec ED v7459 rq]) 0 ⟨rfl, rfl, rfl, rfl, rfl, rfl, rfl, rfl, rfl, rfl, rfl, rfl, trivial⟩ ⟨Nat.zero_le _, (S60.pick [1, 2, 3] (by decide) rfl)⟩ ?_
  rintro i ρ w1b ⟨hi, S1b⟩ IHb
  refine r_seq ?_
  refine r_seq ?_
  refine r_region ?_
  refine l_x rfl (x_mv rfl) ?_
  refine l_x rfl (x_mv rfl) ?_
  refine l_x rfl (x_len (vec_rd (S1b.at 2 rfl)) rfl Tryz.runUnderlying22) ?_
  refine l_x rfl (x_lss rfl rfl) ?_
  refine l_nil ?_
  refine r_ifd rfl (fun hc78 => ?_) (fun hc78 => ?_)
  · skip
    obtain ⟨a, ha⟩ : ∃ a, rq[i]? = some a := ⟨_, List.getElem?_eq_getElem (by omega)⟩
    have ham := List.mem_of_getElem? ha
    have hap : a.1.kind = 1 → 1 ≤ a.1.parts ∧ a.1.parts ≤ 1000000000 := fun k => formed_parts (hfq _ (mem_dl ham)) k
    have hbs := map_sum_bd (f := fS day) (fun x hx => fS_bd (hfq x hx)) i
    rw [List.length_take, dl_len] at hbs
    refine r_skip ?_
    refine r_seq ?_
    refine r_block ?_
    refine r_seq ?_
    refine r_region ?_
    refine l_x rfl (x_mv rfl) ?_
    refine l_x rfl (x_mv rfl) ?_
    refine l_index ED rfl (vec_rd (S1b.at 2 rfl)) rfl rfl Tryz.runUnderlying22 Tryz.sizeOf45 (by omega) ha ?_
    intro b61 o62 hat63 row64
    refine l_x rfl (x_fieldAddr rfl Tryz.runUnderlying45 rfl Tryz.sizeOf5 (by decide)) ?_
    refine l_x rfl (x_load rfl (ld_cell Tryz.isAgg5 (row64 3 _ rfl))) ?_
    refine l_x rfl (x_eql rfl rfl) ?_
    refine l_x rfl (x_mv rfl) ?_
    refine l_splitd (d := 87) rfl (fun hg87 => ?_) (fun hg87 => ?_)
    · skip
      refine l_x rfl (x_mv rfl) ?_
      refine l_x rfl (x_mv rfl) ?_
      refine l_index ED rfl (vec_rd (S1b.at 2 rfl)) rfl rfl Tryz.runUnderlying22 Tryz.sizeOf45 (by omega) ha ?_
      intro b65 o66 hat67 row68
      refine l_x rfl (x_fieldAddr rfl Tryz.runUnderlying45 rfl Tryz.sizeOf3 (by decide)) ?_
      refine l_x rfl (x_load rfl (ld_cell Tryz.isAgg3 (row68 1 _ rfl))) ?_
      refine l_x rfl (x_mv rfl) ?_
      refine l_x rfl (x_leq rfl rfl) ?_
      refine l_x rfl (x_pick_t rfl rfl) ?_
      refine l_nil ?_
      refine r_ifd rfl (fun hc95 => ?_) (fun hc95 => ?_)
      · skip
        refine r_region ?_
        refine l_x rfl (x_mv rfl) ?_
        refine l_x rfl (x_mv rfl) ?_
        refine l_x rfl (x_mv rfl) ?_
        refine l_index ED rfl (vec_rd (S1b.at 2 rfl)) rfl rfl Tryz.runUnderlying22 Tryz.sizeOf45 (by omega) ha ?_
        intro b69 o70 hat71 row72
        refine l_x rfl (x_fieldAddr rfl Tryz.runUnderlying45 rfl Tryz.sizeOf3 (by decide)) ?_
        refine l_x rfl (x_load rfl (ld_cell Tryz.isAgg3 (row72 6 _ rfl))) ?_
        refine l_x rfl (x_add rfl rfl (by omega)) ?_
        refine l_x rfl (x_as rfl) ?_
        refine l_nil ?_
        refine r_inBlock ?_
        refine r_region ?_
        refine l_x rfl (x_mv rfl) ?_
        refine l_x rfl (x_add rfl rfl (by omega)) ?_
        refine l_x rfl (x_as rfl) ?_
        refine l_nil ?_
        exact IHb (i + 1) _ _ (by omega) ⟨rfl, rfl, rfl, rfl, rfl, rfl, rfl, rfl, rfl, (congrArg (Value.int .i64) (by rw [map_sum_step (dl_get ha), show fS day a.1 = a.1.parts from if_pos (by omega)])), rfl, rfl, trivial⟩ ⟨by omega, (S1b.take 3)⟩
      refine r_skip ?_
      refine r_inBlock ?_
      refine r_region ?_
      refine l_x rfl (x_mv rfl) ?_
      refine l_x rfl (x_add rfl rfl (by omega)) ?_
      refine l_x rfl (x_as rfl) ?_
      refine l_nil ?_
      exact IHb (i + 1) _ _ (by omega) ⟨rfl, rfl, rfl, rfl, rfl, rfl, rfl, rfl, rfl, (congrArg (Value.int .i64) (by rw [map_sum_step (dl_get ha), show fS day a.1 = 0 from if_neg (by omega)]; omega)), rfl, rfl, trivial⟩ ⟨by omega, (S1b.take 3)⟩
    refine l_pass rfl ?_
    refine l_pass rfl ?_
    refine l_pass rfl ?_
    refine l_pass rfl ?_
    refine l_pass rfl ?_
    refine l_pass rfl ?_
    refine l_pass rfl ?_
    refine l_x rfl (x_pick_f rfl rfl) ?_
    refine l_nil ?_
    refine r_false rfl ?_
    refine r_skip ?_
    refine r_inBlock ?_
    refine r_region ?_
    refine l_x rfl (x_mv rfl) ?_
    refine l_x rfl (x_add rfl rfl (by omega)) ?_
    refine l_x rfl (x_as rfl) ?_
    refine l_nil ?_
    exact IHb (i + 1) _ _ (by omega) ⟨rfl, rfl, rfl, rfl, rfl, rfl, rfl, rfl, rfl, (congrArg (Value.int .i64) (by rw [map_sum_step (dl_get ha), show fS day a.1 = 0 from if_neg (by omega)]; omega)), rfl, rfl, trivial⟩ ⟨by omega, (S1b.take 3)⟩
  obtain rfl : i = rq.length := by omega
  have hse : sumI (((dl rq).take rq.length).map (fS day)) = enteredBy (dl rs) known day := by rw [← dl_len, List.take_length, hqq]; rfl
  refine r_exit rfl ?_
  refine r_seq ?_
  refine r_seq ?_
  refine r_region ?_
  refine l_x rfl (x_mv rfl) ?_
  refine l_x rfl (x_neq rfl rfl) ?_
  refine l_x rfl (x_mv rfl) ?_
  refine l_splitd (d := 105) rfl (fun hg105 => ?_) (fun hg105 => ?_)
  · exact absurd rfl hg105
  refine l_x rfl (x_mv rfl) ?_
  refine l_x rfl (x_neq rfl rfl) ?_
  refine l_x rfl (x_pick_f rfl rfl) ?_
  refine l_x rfl (x_mv rfl) ?_
  refine l_splitd (d := 109) rfl (fun hg109 => ?_) (fun hg109 => ?_)
  · exact absurd rfl hg109
  refine l_x rfl (x_load rfl (ld_blks (S1b.blk 0 rfl) Tryz.isAgg28 Tryz.sizeOf28 rfl rfl)) ?_
  refine l_x rfl (x_load rfl (ld_blks (S1b.blk 1 rfl) Tryz.isAgg28 Tryz.sizeOf28 rfl rfl)) ?_
  refine l_x rfl (x_neF rfl rfl) ?_
  refine l_x rfl (x_pick_f rfl rfl) ?_
  refine l_x rfl (x_mv rfl) ?_
  refine l_splitd (d := 114) rfl (fun hg114 => ?_) (fun hg114 => ?_)
  · exact absurd rfl hg114
  refine l_x rfl (x_mv rfl) ?_
  refine l_x rfl (x_mv rfl) ?_
  refine l_x rfl (x_mv rfl) ?_
  refine l_call [] [] [_, _, _] rfl rfl Tryz.call15 rfl ((c_Total rs vl known day _ (hD.le S1b.le)).mono (fun v w' h => (⟨h.1.trans (congrArg (Value.int .i64) (law_sums hR).1), h.2⟩ : v = .int .i64 (enteredBy (dl rs) known day) ∧ Le _ w'))) ?_
  rintro _ w73 ⟨rfl, hl75⟩
  have S74 := S1b.step hl75
  refine l_x rfl (x_mv rfl) ?_
  refine l_x rfl (x_neq rfl rfl) ?_
  refine l_x rfl (x_pick_f rfl rfl) ?_
  refine l_nil ?_
  refine r_ifd rfl (fun hc121 => ?_) (fun hc121 => ?_)
  · exact absurd hse.symm hc121
  refine r_skip ?_
  refine r_seq ?_
  refine r_region ?_
  refine l_x rfl (x_mv rfl) ?_
  refine l_x rfl (x_mv rfl) ?_
  refine l_x rfl (x_mv rfl) ?_
  refine l_x rfl (x_mv rfl) ?_
  refine l_call [] [] [_, _, _, _] rfl rfl Tryz.call17 rfl (c_Lineage rs vl known day owner _ (hD.le S74.le)) ?_
  rintro v12676 w76 ⟨hN12676, hl12676⟩
  have S77 := S74.add hl12676 hN12676
  refine l_x rfl (x_as rfl) ?_
  refine l_nil ?_
  refine r_seq ?_
  refine r_seq ?_
  refine r_region ?_
  refine l_x rfl (x_as rfl) ?_
  refine l_nil ?_
  refine r_block ?_
  refine r_loop (G := Nat) (fun j => (lineageD (dl rs) known day owner).length - j) (fun j => [(0, vl), (1, .int .i64 known), (2, .int .i64 day), (3, .int .i64 owner), (4, .int .i64 which), (24, v12676), (25, .int .i64 j)]) (fun j w' => (j ≤ (lineageD (dl rs) known day owner).length) ∧ (which ∉ (lineageD (dl rs) known day owner).take j) ∧ Own nob w w' [vec EI v12676 (lineageD (dl rs) known day owner)]) 0 ⟨rfl, rfl, rfl, rfl, rfl, rfl, rfl, trivial⟩ ⟨Nat.zero_le _, by simp, (S77.pick [3] (by decide) rfl)⟩ ?_
  rintro j ρ w1c ⟨hj, hno, S1c⟩ IHc
  refine r_seq ?_
  refine r_seq ?_
  refine r_region ?_
  refine l_x rfl (x_mv rfl) ?_
  refine l_x rfl (x_mv rfl) ?_
  refine l_x rfl (x_len (vec_rd (S1c.at 0 rfl)) rfl Tryz.runUnderlying23) ?_
  refine l_x rfl (x_lss rfl rfl) ?_
  refine l_nil ?_
  refine r_ifd rfl (fun hc130 => ?_) (fun hc130 => ?_)
  · skip
    have hll9 := lin_len (dl rs) known day owner hR
    obtain ⟨x, hx⟩ : ∃ x, (lineageD (dl rs) known day owner)[j]? = some x := ⟨_, List.getElem?_eq_getElem (by omega)⟩
    refine r_skip ?_
    refine r_seq ?_
    refine r_block ?_
    refine r_seq ?_
    refine r_region ?_
    refine l_x rfl (x_mv rfl) ?_
    refine l_x rfl (x_mv rfl) ?_
    refine l_index EI rfl (vec_rd (S1c.at 0 rfl)) rfl rfl Tryz.runUnderlying23 Tryz.sizeOf3 (by omega) hx ?_
    intro b78 o79 hat80 row81
    refine l_x rfl (x_load rfl (ld_cell Tryz.isAgg3 (row81 0 _ rfl))) ?_
    refine l_x rfl (x_mv rfl) ?_
    refine l_x rfl (x_eql rfl rfl) ?_
    refine l_nil ?_
    refine r_ifd rfl (fun hc138 => ?_) (fun hc138 => ?_)
    · skip
      refine r_seq ?_
      refine r_region ?_
      refine l_call [] [] [] rfl rfl Tryz.call7 rfl (c_inherited _) ?_
      rintro _ w82 ⟨rfl, hl84⟩
      have S83 := S1c.step hl84
      refine l_x rfl (x_as rfl) ?_
      refine l_nil ?_
      refine r_ret (rs := [.tmp 10]) [_] Tryz.func4 rfl ⟨rfl, trivial⟩ ?_
      exact ⟨rfl, S83.le⟩
    refine r_skip ?_
    refine r_inBlock ?_
    refine r_region ?_
    refine l_x rfl (x_mv rfl) ?_
    refine l_x rfl (x_add rfl rfl (by omega)) ?_
    refine l_x rfl (x_as rfl) ?_
    refine l_nil ?_
    exact IHc (j + 1) _ _ (by omega) ⟨rfl, rfl, rfl, rfl, rfl, rfl, rfl, trivial⟩ ⟨by omega, not_take hno hx (fun h => hc138 h.symm), (S1c.take 1)⟩
  obtain rfl : j = (lineageD (dl rs) known day owner).length := by omega
  rw [List.take_length] at hno
  refine r_exit rfl ?_
  refine r_seq ?_
  refine r_region ?_
  refine l_x rfl (x_mv rfl) ?_
  refine l_x rfl (x_mv rfl) ?_
  refine l_x rfl (x_len (hD.rd.le S1c.le) rfl Tryz.runUnderlying22) ?_
  refine l_x rfl (x_add rfl rfl (by omega)) ?_
  refine l_x rfl (x_mv rfl) ?_
  refine l_x rfl (x_mv rfl) ?_
  refine l_x rfl (x_buildS (out := [_, _, _, _, _, _, _, _, _, _, _]) (ss := [1, 1, 1, 1, 1, 1, 1, 1, 1, 1, 1]) Tryz.zeroValue45 rfl Tryz.runUnderlying45 ⟨Tryz.sizeOf3, Tryz.sizeOf3, Tryz.sizeOf3, Tryz.sizeOf5, Tryz.sizeOf3, Tryz.sizeOf3, Tryz.sizeOf3, Tryz.sizeOf3, Tryz.sizeOf3, Tryz.sizeOf23, Tryz.sizeOf23, trivial⟩ (fill_cons rfl rfl rfl (Nat.le_of_ble_eq_true rfl) (fill_cons rfl rfl rfl (Nat.le_of_ble_eq_true rfl) (fill_cons rfl rfl rfl (Nat.le_of_ble_eq_true rfl) (fill_cons rfl rfl rfl (Nat.le_of_ble_eq_true rfl) fill_nil))))) ?_
  refine l_call [] [] [_, _] rfl rfl Tryz.call18 rfl (c_Append rs vl ((⟨(rs.length : Int) + 1, 0, known, 8, 0, 0, 0, 0, which, [], []⟩ : D), ((none, 0, 0) : Hd), ((none, 0, 0) : Hd)) _ (hD.le S1c.le) (sub_nil _ _ rfl rfl)) ?_
  rintro _ w85 ⟨s1, rs1, e1, rfl, he1, hrs1, h87⟩
  have S86 := S1c.join h87
  refine l_x rfl (x_mv rfl) ?_
  refine l_x rfl (x_extract rfl rfl) ?_
  refine l_x rfl (x_extract rfl rfl) ?_
  refine l_x rfl (x_as rfl) ?_
  refine l_x rfl (x_as rfl) ?_
  refine l_nil ?_
  refine r_seq ?_
  refine r_seq ?_
  refine r_region ?_
  refine l_x rfl (x_mv rfl) ?_
  refine l_x rfl (x_neq rfl rfl) ?_
  refine l_nil ?_
  refine r_ifd rfl (fun hc152 => ?_) (fun hc152 => ?_)
  · skip
    refine r_seq ?_
    refine r_region ?_
    refine l_call [] [] [] rfl rfl Tryz.call7 rfl (c_inherited _) ?_
    rintro _ w88 ⟨rfl, hl90⟩
    have S89 := S86.step hl90
    refine l_x rfl (x_as rfl) ?_
    refine l_nil ?_
    refine r_ret (rs := [.tmp 10]) [_] Tryz.func4 rfl ⟨rfl, trivial⟩ ?_
    exact ⟨rfl, S89.le⟩
  have he0 := Decidable.not_not.1 hc152
  have h0 := he1.symm.trans he0
  have hh1 := app_dl h0 hrs1 (fun x hx => ⟨(hD.sub x hx).hm, (hD.sub x hx).sm⟩) ⟨Nat.zero_le _, Nat.zero_le _⟩
  have hm1 : dl rs1 = dl rs ++ [((⟨(rs.length : Int) + 1, 0, known, 8, 0, 0, 0, 0, which, [], []⟩ : D), ((none, 0, 0) : Hd), ((none, 0, 0) : Hd)).1] := hrs1.trans (append_ok h0)
  refine r_skip ?_
  refine r_seq ?_
  refine r_region ?_
  refine l_call [] [] [] rfl rfl Tryz.call7 rfl (c_inherited _) ?_
  rintro _ w91 ⟨rfl, hl93⟩
  have S92 := S86.step hl93
  refine l_x rfl (x_mv rfl) ?_
  refine l_x rfl (x_mv rfl) ?_
  refine l_x rfl (x_mv rfl) ?_
  refine l_x rfl (x_mv rfl) ?_
  refine l_x rfl (x_mv rfl) ?_
  refine l_call [] [] [_, _, _, _] rfl rfl Tryz.call8 rfl (c_Uses rs1 s1 known day owner _ (dnest_dsr (S92.at 1 rfl) (S92.at 2 rfl) hh1.1 (by have := hh1.2; omega))) ?_
  rintro _ w94 ⟨rfl, hl96⟩
  have S95 := S92.step hl96
  refine l_x rfl (x_mv rfl) ?_
  refine l_x rfl (x_mv rfl) ?_
  refine l_x rfl (x_mv rfl) ?_
  refine l_x rfl (x_mv rfl) ?_
  refine l_call [] [] [_, _, _, _] rfl rfl Tryz.call8 rfl (c_Uses rs vl known day owner _ (hD.le S95.le)) ?_
  rintro _ w97 ⟨rfl, hl99⟩
  have S98 := S95.step hl99
  refine l_x rfl (x_eql rfl rfl) ?_
  refine l_x rfl (x_pick_t rfl rfl) ?_
  refine l_x rfl (x_as rfl) ?_
  refine l_nil ?_
  refine r_ret (rs := [.tmp 10]) [_] Tryz.func4 rfl ⟨rfl, trivial⟩ ?_
  exact ⟨congrArg Value.bool (decide_eq_true (by rw [hm1]; exact rest_void h0 rfl (Int.le_refl _) hno)), S98.le⟩

end Go.Proofs
