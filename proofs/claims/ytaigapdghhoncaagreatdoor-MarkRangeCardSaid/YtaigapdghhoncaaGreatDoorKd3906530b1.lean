/- Texts joined for claims: LRange. -/
import Derived.Test.YtaigapdghhoncaaGreatDoorKfe2d6d7a1f
import Derived.Test.YtaigapdghhoncaaGreatDoorKbfaf68f07f
set_option linter.unusedVariables false
set_option linter.unusedSimpArgs false
set_option linter.unusedSectionVars false
/-
  Contracts of functions of the program: each by symbolic execution of its text.
-/
namespace Go.Proofs
open Go Go.Vk Go.Vk.Flow

open Go.Vk.Mark
open Go.Vk.Deed (i64 rng rng_iff owners sumI sumI_cons sumI_snoc)

set_option maxHeartbeats 4000000 in
/-- couchant/couchantlaw03.MarkRange. -/
theorem lawRange (b : Sm) (vm vf : Value) (day : Int) (found : List Sg) (vs : Value) (cs9 : List Clm) (vq : Value) (hm : found.length ≤ 9223372036854775807) (hmc : cs9.length ≤ 9223372036854775807) (hsg : ∀ t ∈ found, SgOk t) (os : List Int) (vo : Value) (o : Int) (w : World) (hB : SmR 39 41 w vm vf b) (hG : Gl w) (hF : Rd ESG w vs found) (hC : Rd ECL w vq cs9) (hO : Rd EI w vo os) :
    Cl Tryz.prog 15 #[.agg #[vm, vf], Value.int .i64 day, vs, vq, vo, Value.int .i64 o] w fun v w' => v = .bool true ∧ Le w w' := by
  have hlm := hB.lm
  have hlf := hB.lf
  refine fn_of_run (args := [_, _, _, _, _, _]) 214 Tryz.func15 rfl rfl rfl fun cs => ?_
  have S := Own.start (X := nob) w
  refine r_seq ?_
  refine r_region ?_
  refine l_box S rfl rfl ?_
  intro b4 w1 S2 hl3
  refine l_x rfl (x_as rfl) ?_
  refine l_nil ?_
  refine r_seq ?_
  refine r_seq ?_
  refine r_region ?_
  refine l_x rfl (x_fieldAddr rfl Tryz.runUnderlying25 rfl Tryz.sizeOf22 (by decide)) ?_
  refine l_x rfl (x_load rfl (ld_blk (S2.blk 0 rfl) Tryz.isAgg22 rfl)) ?_
  refine l_x rfl (x_len (hB.m.le S2.le) rfl Tryz.runUnderlying22) ?_
  refine l_x rfl (x_gtr rfl rfl) ?_
  refine l_x rfl (x_mv rfl) ?_
  refine l_splitd (d := 34) rfl (fun hg34 => ?_) (fun hg34 => ?_)
  · skip
    refine l_pass rfl ?_
    refine l_pass rfl ?_
    refine l_pass rfl ?_
    refine l_x rfl (x_pick_t rfl rfl) ?_
    refine l_x rfl (x_mv rfl) ?_
    refine l_pass rfl ?_
    refine l_pass rfl ?_
    refine l_pass rfl ?_
    refine l_x rfl (x_pick_t rfl rfl) ?_
    refine l_x rfl (x_mv rfl) ?_
    refine l_pass rfl ?_
    refine l_pass rfl ?_
    refine l_pass rfl ?_
    refine l_x rfl (x_pick_t rfl rfl) ?_
    refine l_nil ?_
    refine r_true rfl ?_
    refine r_seq ?_
    refine r_region ?_
    refine l_call [] [] [] rfl rfl Tryz.call20 rfl (c_marked _ (hG.le S2.le)) ?_
    rintro _ w5 ⟨rfl, hl7⟩
    have S6 := S2.step hl7
    refine l_x rfl (x_as rfl) ?_
    refine l_nil ?_
    refine r_ret (rs := [.tmp 12]) [_] Tryz.func15 rfl ⟨rfl, trivial⟩ ?_
    exact ⟨by first | rfl | exact congrArg Value.bool (decide_eq_true rfl), S6.le⟩
  refine l_x rfl (x_mv rfl) ?_
  refine l_x rfl (x_len (hF.le S2.le) rfl Tryz.runUnderlying50) ?_
  refine l_x rfl (x_gtr rfl rfl) ?_
  refine l_x rfl (x_pick_f rfl rfl) ?_
  refine l_x rfl (x_mv rfl) ?_
  refine l_splitd (d := 39) rfl (fun hg39 => ?_) (fun hg39 => ?_)
  · skip
    refine l_pass rfl ?_
    refine l_pass rfl ?_
    refine l_pass rfl ?_
    refine l_x rfl (x_pick_t rfl rfl) ?_
    refine l_x rfl (x_mv rfl) ?_
    refine l_pass rfl ?_
    refine l_pass rfl ?_
    refine l_pass rfl ?_
    refine l_x rfl (x_pick_t rfl rfl) ?_
    refine l_nil ?_
    refine r_true rfl ?_
    refine r_seq ?_
    refine r_region ?_
    refine l_call [] [] [] rfl rfl Tryz.call20 rfl (c_marked _ (hG.le S2.le)) ?_
    rintro _ w8 ⟨rfl, hl10⟩
    have S9 := S2.step hl10
    refine l_x rfl (x_as rfl) ?_
    refine l_nil ?_
    refine r_ret (rs := [.tmp 12]) [_] Tryz.func15 rfl ⟨rfl, trivial⟩ ?_
    exact ⟨by first | rfl | exact congrArg Value.bool (decide_eq_true rfl), S9.le⟩
  refine l_x rfl (x_mv rfl) ?_
  refine l_x rfl (x_len (hC.le S2.le) rfl Tryz.runUnderlying51) ?_
  refine l_x rfl (x_gtr rfl rfl) ?_
  refine l_x rfl (x_pick_f rfl rfl) ?_
  refine l_x rfl (x_mv rfl) ?_
  refine l_splitd (d := 44) rfl (fun hg44 => ?_) (fun hg44 => ?_)
  · skip
    refine l_pass rfl ?_
    refine l_pass rfl ?_
    refine l_pass rfl ?_
    refine l_x rfl (x_pick_t rfl rfl) ?_
    refine l_nil ?_
    refine r_true rfl ?_
    refine r_seq ?_
    refine r_region ?_
    refine l_call [] [] [] rfl rfl Tryz.call20 rfl (c_marked _ (hG.le S2.le)) ?_
    rintro _ w11 ⟨rfl, hl13⟩
    have S12 := S2.step hl13
    refine l_x rfl (x_as rfl) ?_
    refine l_nil ?_
    refine r_ret (rs := [.tmp 12]) [_] Tryz.func15 rfl ⟨rfl, trivial⟩ ?_
    exact ⟨by first | rfl | exact congrArg Value.bool (decide_eq_true rfl), S12.le⟩
  refine l_x rfl (x_mv rfl) ?_
  refine l_x rfl (x_len (hO.le S2.le) rfl Tryz.runUnderlying52) ?_
  refine l_x rfl (x_gtr rfl rfl) ?_
  refine l_x rfl (x_pick_f rfl rfl) ?_
  refine l_nil ?_
  refine r_ifd rfl (fun hc48 => ?_) (fun hc48 => ?_)
  · skip
    refine r_seq ?_
    refine r_region ?_
    refine l_call [] [] [] rfl rfl Tryz.call20 rfl (c_marked _ (hG.le S2.le)) ?_
    rintro _ w14 ⟨rfl, hl16⟩
    have S15 := S2.step hl16
    refine l_x rfl (x_as rfl) ?_
    refine l_nil ?_
    refine r_ret (rs := [.tmp 12]) [_] Tryz.func15 rfl ⟨rfl, trivial⟩ ?_
    exact ⟨by first | rfl | exact congrArg Value.bool (decide_eq_true rfl), S15.le⟩
  refine r_skip ?_
  refine r_seq ?_
  refine r_region ?_
  refine l_x rfl (x_load rfl (ld_blks (S2.blk 0 rfl) Tryz.isAgg25 Tryz.sizeOf25 rfl rfl)) ?_
  refine l_x rfl (x_mv rfl) ?_
  refine l_x rfl (x_mv rfl) ?_
  refine l_x rfl (x_mv rfl) ?_
  refine l_call [] [] [_, _, _, _] rfl rfl Tryz.call58 rfl (c_Range b vm vf day found _ o hm hsg _ (hB.le S2.le) (hF.le S2.le)) ?_
  rintro _ w17 (⟨e9, hne9, rfl, he9, hl5517⟩ | ⟨rfl, hr9, hl5517⟩)
  · skip
    have S18 := S2.step hl5517
    refine l_x rfl (x_mv rfl) ?_
    refine l_x rfl (x_extract rfl rfl) ?_
    refine l_x rfl (x_extract rfl rfl) ?_
    refine l_x rfl (x_extract rfl rfl) ?_
    refine l_x rfl (x_as rfl) ?_
    refine l_x rfl (x_as rfl) ?_
    refine l_x rfl (x_as rfl) ?_
    refine l_nil ?_
    refine r_seq ?_
    refine r_region ?_
    refine l_x rfl (x_load rfl (ld_blks (S18.blk 0 rfl) Tryz.isAgg25 Tryz.sizeOf25 rfl rfl)) ?_
    refine l_x rfl (x_mv rfl) ?_
    refine l_x rfl (x_mv rfl) ?_
    refine l_x rfl (x_mv rfl) ?_
    refine l_x rfl (x_mv rfl) ?_
    refine l_call [] [] [_, _, _, _, _] rfl rfl Tryz.call29 rfl (c_Meets b vm vf day found vs cs9 vq hm hmc hsg os vo _ (hB.le S18.le) (hF.le S18.le) (hC.le S18.le) (hO.le S18.le)) ?_
    rintro _ w19 (⟨e8, hne8, rfl, he8, hl6519⟩ | ⟨cz9, hb9, hp9, hs9, rfl, hl6519⟩)
    · skip
      have S20 := S18.step hl6519
      refine l_x rfl (x_mv rfl) ?_
      refine l_x rfl (x_extract rfl rfl) ?_
      refine l_x rfl (x_extract rfl rfl) ?_
      refine l_x rfl (x_as rfl) ?_
      refine l_x rfl (x_as rfl) ?_
      refine l_nil ?_
      refine r_seq ?_
      refine r_region ?_
      refine l_x rfl (x_load rfl (ld_blks (S20.blk 0 rfl) Tryz.isAgg25 Tryz.sizeOf25 rfl rfl)) ?_
      refine l_x rfl (x_mv rfl) ?_
      refine l_x rfl (x_mv rfl) ?_
      refine l_x rfl (x_mv rfl) ?_
      refine l_x rfl (x_mv rfl) ?_
      refine l_call [] [] [_, _, _, _, _] rfl rfl Tryz.call51 rfl (c_MostE b vm vf day found vs cs9 vq hm hmc hsg o (not_begin1 hne9 he9) _ (hB.le S20.le) (hF.le S20.le) (hC.le S20.le)) ?_
      rintro _ w21 ⟨e7, hne7, rfl, hl7421⟩
      have S22 := S20.step hl7421
      refine l_x rfl (x_mv rfl) ?_
      refine l_x rfl (x_extract rfl rfl) ?_
      refine l_x rfl (x_extract rfl rfl) ?_
      refine l_x rfl (x_as rfl) ?_
      refine l_x rfl (x_as rfl) ?_
      refine l_nil ?_
      refine r_seq ?_
      refine r_seq ?_
      refine r_region ?_
      refine l_x rfl (x_mv rfl) ?_
      refine l_x rfl (x_neq rfl rfl) ?_
      refine l_x rfl (x_mv rfl) ?_
      refine l_splitd (d := 79) rfl (fun hg79 => ?_) (fun hg79 => ?_)
      · skip
        refine l_pass rfl ?_
        refine l_pass rfl ?_
        refine l_x rfl (x_pick_t rfl rfl) ?_
        refine l_nil ?_
        refine r_true rfl ?_
        refine r_seq ?_
        refine r_region ?_
        refine l_call [] [] [] rfl rfl Tryz.call20 rfl (c_marked _ (hG.le S22.le)) ?_
        rintro _ w23 ⟨rfl, hl25⟩
        have S24 := S22.step hl25
        refine l_x rfl (x_mv rfl) ?_
        refine l_x rfl (x_mv rfl) ?_
        refine l_x rfl (x_neq rfl rfl) ?_
        refine l_x rfl (x_pick_t rfl rfl) ?_
        refine l_x rfl (x_mv rfl) ?_
        refine l_splitd (d := 88) rfl (fun hg88 => ?_) (fun hg88 => ?_)
        · skip
          refine l_x rfl (x_mv rfl) ?_
          refine l_x rfl (x_eql rfl rfl) ?_
          refine l_x rfl (x_pick_t rfl rfl) ?_
          refine l_x rfl (x_as rfl) ?_
          refine l_nil ?_
          refine r_ret (rs := [.tmp 12]) [_] Tryz.func15 rfl ⟨rfl, trivial⟩ ?_
          exact ⟨by first | rfl | exact congrArg Value.bool (decide_eq_true rfl), S24.le⟩
        exact absurd hne7 hg88
      exact absurd hne9 hg79
    have S26 := S18.step hl6519
    refine l_x rfl (x_mv rfl) ?_
    refine l_x rfl (x_extract rfl rfl) ?_
    refine l_x rfl (x_extract rfl rfl) ?_
    refine l_x rfl (x_as rfl) ?_
    refine l_x rfl (x_as rfl) ?_
    refine l_nil ?_
    refine r_seq ?_
    refine r_region ?_
    refine l_x rfl (x_load rfl (ld_blks (S26.blk 0 rfl) Tryz.isAgg25 Tryz.sizeOf25 rfl rfl)) ?_
    refine l_x rfl (x_mv rfl) ?_
    refine l_x rfl (x_mv rfl) ?_
    refine l_x rfl (x_mv rfl) ?_
    refine l_x rfl (x_mv rfl) ?_
    refine l_call [] [] [_, _, _, _, _] rfl rfl Tryz.call51 rfl (c_MostE b vm vf day found vs cs9 vq hm hmc hsg o (not_begin1 hne9 he9) _ (hB.le S26.le) (hF.le S26.le) (hC.le S26.le)) ?_
    rintro _ w27 ⟨e7, hne7, rfl, hl7427⟩
    have S28 := S26.step hl7427
    refine l_x rfl (x_mv rfl) ?_
    refine l_x rfl (x_extract rfl rfl) ?_
    refine l_x rfl (x_extract rfl rfl) ?_
    refine l_x rfl (x_as rfl) ?_
    refine l_x rfl (x_as rfl) ?_
    refine l_nil ?_
    refine r_seq ?_
    refine r_seq ?_
    refine r_region ?_
    refine l_x rfl (x_mv rfl) ?_
    refine l_x rfl (x_neq rfl rfl) ?_
    refine l_x rfl (x_mv rfl) ?_
    refine l_splitd (d := 79) rfl (fun hg79 => ?_) (fun hg79 => ?_)
    · skip
      refine l_pass rfl ?_
      refine l_pass rfl ?_
      refine l_x rfl (x_pick_t rfl rfl) ?_
      refine l_nil ?_
      refine r_true rfl ?_
      refine r_seq ?_
      refine r_region ?_
      refine l_call [] [] [] rfl rfl Tryz.call20 rfl (c_marked _ (hG.le S28.le)) ?_
      rintro _ w29 ⟨rfl, hl31⟩
      have S30 := S28.step hl31
      refine l_x rfl (x_mv rfl) ?_
      refine l_x rfl (x_mv rfl) ?_
      refine l_x rfl (x_neq rfl rfl) ?_
      refine l_x rfl (x_pick_t rfl rfl) ?_
      refine l_x rfl (x_mv rfl) ?_
      refine l_splitd (d := 88) rfl (fun hg88 => ?_) (fun hg88 => ?_)
      · skip
        refine l_x rfl (x_mv rfl) ?_
        refine l_x rfl (x_eql rfl rfl) ?_
        refine l_x rfl (x_pick_t rfl rfl) ?_
        refine l_x rfl (x_as rfl) ?_
        refine l_nil ?_
        refine r_ret (rs := [.tmp 12]) [_] Tryz.func15 rfl ⟨rfl, trivial⟩ ?_
        exact ⟨by first | rfl | exact congrArg Value.bool (decide_eq_true rfl), S30.le⟩
      exact absurd hne7 hg88
    exact absurd hne9 hg79
  have S32 := S2.step hl5517
  refine l_x rfl (x_mv rfl) ?_
  refine l_x rfl (x_extract rfl rfl) ?_
  refine l_x rfl (x_extract rfl rfl) ?_
  refine l_x rfl (x_extract rfl rfl) ?_
  refine l_x rfl (x_as rfl) ?_
  refine l_x rfl (x_as rfl) ?_
  refine l_x rfl (x_as rfl) ?_
  refine l_nil ?_
  refine r_seq ?_
  refine r_region ?_
  refine l_x rfl (x_load rfl (ld_blks (S32.blk 0 rfl) Tryz.isAgg25 Tryz.sizeOf25 rfl rfl)) ?_
  refine l_x rfl (x_mv rfl) ?_
  refine l_x rfl (x_mv rfl) ?_
  refine l_x rfl (x_mv rfl) ?_
  refine l_x rfl (x_mv rfl) ?_
  refine l_call [] [] [_, _, _, _, _] rfl rfl Tryz.call29 rfl (c_Meets b vm vf day found vs cs9 vq hm hmc hsg os vo _ (hB.le S32.le) (hF.le S32.le) (hC.le S32.le) (hO.le S32.le)) ?_
  rintro _ w33 (⟨e8, hne8, rfl, he8, hl6533⟩ | ⟨cz9, hb9, hp9, hs9, rfl, hl6533⟩)
  · skip
    have S34 := S32.step hl6533
    refine l_x rfl (x_mv rfl) ?_
    refine l_x rfl (x_extract rfl rfl) ?_
    refine l_x rfl (x_extract rfl rfl) ?_
    refine l_x rfl (x_as rfl) ?_
    refine l_x rfl (x_as rfl) ?_
    refine l_nil ?_
    refine r_seq ?_
    refine r_region ?_
    refine l_x rfl (x_load rfl (ld_blks (S34.blk 0 rfl) Tryz.isAgg25 Tryz.sizeOf25 rfl rfl)) ?_
    refine l_x rfl (x_mv rfl) ?_
    refine l_x rfl (x_mv rfl) ?_
    refine l_x rfl (x_mv rfl) ?_
    refine l_x rfl (x_mv rfl) ?_
    refine l_call [] [] [_, _, _, _, _] rfl rfl Tryz.call51 rfl (c_MostE b vm vf day found vs cs9 vq hm hmc hsg o (not_begin2 hne8 he8) _ (hB.le S34.le) (hF.le S34.le) (hC.le S34.le)) ?_
    rintro _ w35 ⟨e7, hne7, rfl, hl7435⟩
    have S36 := S34.step hl7435
    refine l_x rfl (x_mv rfl) ?_
    refine l_x rfl (x_extract rfl rfl) ?_
    refine l_x rfl (x_extract rfl rfl) ?_
    refine l_x rfl (x_as rfl) ?_
    refine l_x rfl (x_as rfl) ?_
    refine l_nil ?_
    refine r_seq ?_
    refine r_seq ?_
    refine r_region ?_
    refine l_x rfl (x_mv rfl) ?_
    refine l_x rfl (x_neq rfl rfl) ?_
    refine l_x rfl (x_mv rfl) ?_
    refine l_splitd (d := 79) rfl (fun hg79 => ?_) (fun hg79 => ?_)
    · exact absurd rfl hg79
    refine l_x rfl (x_mv rfl) ?_
    refine l_x rfl (x_neq rfl rfl) ?_
    refine l_x rfl (x_pick_f rfl rfl) ?_
    refine l_nil ?_
    refine r_ifd rfl (fun hc82 => ?_) (fun hc82 => ?_)
    · skip
      refine r_seq ?_
      refine r_region ?_
      refine l_call [] [] [] rfl rfl Tryz.call20 rfl (c_marked _ (hG.le S36.le)) ?_
      rintro _ w37 ⟨rfl, hl39⟩
      have S38 := S36.step hl39
      refine l_x rfl (x_mv rfl) ?_
      refine l_x rfl (x_mv rfl) ?_
      refine l_x rfl (x_neq rfl rfl) ?_
      refine l_x rfl (x_pick_t rfl rfl) ?_
      refine l_x rfl (x_mv rfl) ?_
      refine l_splitd (d := 88) rfl (fun hg88 => ?_) (fun hg88 => ?_)
      · skip
        refine l_x rfl (x_mv rfl) ?_
        refine l_x rfl (x_eql rfl rfl) ?_
        refine l_x rfl (x_pick_t rfl rfl) ?_
        refine l_x rfl (x_as rfl) ?_
        refine l_nil ?_
        refine r_ret (rs := [.tmp 12]) [_] Tryz.func15 rfl ⟨rfl, trivial⟩ ?_
        exact ⟨by first | rfl | exact congrArg Value.bool (decide_eq_true rfl), S38.le⟩
      exact absurd hne7 hg88
    exact absurd hne8 hc82
  have S40 := S32.step hl6533
  refine l_x rfl (x_mv rfl) ?_
  refine l_x rfl (x_extract rfl rfl) ?_
  refine l_x rfl (x_extract rfl rfl) ?_
  refine l_x rfl (x_as rfl) ?_
  refine l_x rfl (x_as rfl) ?_
  refine l_nil ?_
  refine r_seq ?_
  refine r_region ?_
  refine l_x rfl (x_load rfl (ld_blks (S40.blk 0 rfl) Tryz.isAgg25 Tryz.sizeOf25 rfl rfl)) ?_
  refine l_x rfl (x_mv rfl) ?_
  refine l_x rfl (x_mv rfl) ?_
  refine l_x rfl (x_mv rfl) ?_
  refine l_x rfl (x_mv rfl) ?_
  refine l_call [] [] [_, _, _, _, _] rfl rfl Tryz.call51 rfl (c_MostK b vm vf day found vs cs9 vq hm hmc hsg o (begin_of hr9 hb9) (by have := oth_len (cs := cs9) (o := o); omega) _ (hB.le S40.le) (hF.le S40.le) (hC.le S40.le)) ?_
  rintro _ w41 (⟨n9, hn9, hP9, hq9, rfl, hl7441⟩ | ⟨hq9, rfl, hl7441⟩)
  · skip
    have S42 := S40.step hl7441
    have hap9 := begin_apart hb9
    have hfl9 := fit_len (b := b) (day := day) (found := found) (o := o)
    have hsp9 := sure_perhaps (b := b) (day := day) (found := found) (o := o)
    have hw9 := range_own hr9
    have ho0 := own_ne hw9
    have hmf9 := most_fit hap9 hP9
    refine l_x rfl (x_mv rfl) ?_
    refine l_x rfl (x_extract rfl rfl) ?_
    refine l_x rfl (x_extract rfl rfl) ?_
    refine l_x rfl (x_as rfl) ?_
    refine l_x rfl (x_as rfl) ?_
    refine l_nil ?_
    refine r_seq ?_
    refine r_seq ?_
    refine r_region ?_
    refine l_x rfl (x_mv rfl) ?_
    refine l_x rfl (x_neq rfl rfl) ?_
    refine l_x rfl (x_mv rfl) ?_
    refine l_splitd (d := 79) rfl (fun hg79 => ?_) (fun hg79 => ?_)
    · exact absurd rfl hg79
    refine l_x rfl (x_mv rfl) ?_
    refine l_x rfl (x_neq rfl rfl) ?_
    refine l_x rfl (x_pick_f rfl rfl) ?_
    refine l_nil ?_
    refine r_ifd rfl (fun hc82 => ?_) (fun hc82 => ?_)
    · exact absurd rfl hc82
    refine r_skip ?_
    refine r_seq ?_
    refine r_region ?_
    refine l_x rfl (x_as rfl) ?_
    refine l_nil ?_
    refine r_seq ?_
    refine r_seq ?_
    refine r_region ?_
    refine l_x rfl (x_as rfl) ?_
    refine l_nil ?_
    refine r_block ?_
    refine r_loop (G := Nat) (fun i => os.length - i) (fun i => [(1, Value.int .i64 day), (2, vs), (3, vq), (4, vo), (5, Value.int .i64 o), (6, .pointer (some ⟨b4, 0, none⟩)), (13, Value.int .i64 (sureN b day found o)), (14, Value.int .i64 (perhapsN b day found o)), (16, .bool (meetsM os (mks b day found cz9) cz9)), (18, Value.int .i64 (n9 : Int)), (19, Value.int .i64 0), (20, Value.int .i64 ((cntO (os.take i) o) : Int)), (21, Value.int .i64 i)]) (fun i w' => (i ≤ os.length) ∧ (i = 0 ∨ meetsM os (mks b day found cz9) cz9 = true) ∧ Own nob w w' [blk b4 [vm, vf] 25]) 0 ⟨rfl, rfl, rfl, rfl, rfl, rfl, rfl, rfl, rfl, rfl, rfl, rfl, rfl, trivial⟩ ⟨Nat.zero_le _, .inl rfl, S42⟩ ?_
    rintro i ρ w1 ⟨hi, hI, S1⟩ IH
    refine r_seq ?_
    refine r_seq ?_
    refine r_region ?_
    refine l_x rfl (x_mv rfl) ?_
    refine l_x rfl (x_mv rfl) ?_
    refine l_x rfl (x_len (hO.le S1.le) rfl Tryz.runUnderlying52) ?_
    refine l_x rfl (x_lss rfl rfl) ?_
    refine l_x rfl (x_mv rfl) ?_
    refine l_splitd (d := 96) rfl (fun hg96 => ?_) (fun hg96 => ?_)
    · skip
      refine l_x rfl (x_mv rfl) ?_
      refine l_x rfl (x_pick_t rfl rfl) ?_
      refine l_nil ?_
      refine r_if rfl (fun hc98 => ?_) (fun hc98 => ?_)
      · skip
        have hok : meetsM os (mks b day found cz9) cz9 = true := by simpa using hc98
        obtain ⟨x, hx⟩ : ∃ x, os[i]? = some x := ⟨_, List.getElem?_eq_getElem (by omega)⟩
        have hct := cnt_len9 (os := os) (o := o) (i := i)
        refine r_skip ?_
        refine r_seq ?_
        refine r_block ?_
        refine r_seq ?_
        refine r_region ?_
        refine l_x rfl (x_mv rfl) ?_
        refine l_x rfl (x_mv rfl) ?_
        refine l_index EI rfl (hO.le S1.le) rfl rfl Tryz.runUnderlying52 Tryz.sizeOf3 (by omega) hx ?_
        intro b43 o44 hat45 row46
        refine l_x rfl (x_load rfl (ld_cell Tryz.isAgg3 (row46 0 _ rfl))) ?_
        refine l_x rfl (x_mv rfl) ?_
        refine l_x rfl (x_eql rfl rfl) ?_
        refine l_nil ?_
        refine r_ifd rfl (fun hc106 => ?_) (fun hc106 => ?_)
        · skip
          have hc106 : x = o := hc106
          subst hc106
          refine r_region ?_
          refine l_x rfl (x_mv rfl) ?_
          refine l_x rfl (x_add rfl rfl (by omega)) ?_
          refine l_x rfl (x_as rfl) ?_
          refine l_nil ?_
          refine r_inBlock ?_
          refine r_region ?_
          refine l_x rfl (x_mv rfl) ?_
          refine l_x rfl (x_add rfl rfl (by omega)) ?_
          refine l_x rfl (x_as rfl) ?_
          refine l_nil ?_
          exact IH (i + 1) _ _ (by omega) ⟨rfl, rfl, rfl, rfl, rfl, rfl, rfl, rfl, rfl, rfl, rfl, (congrArg (Value.int .i64) (by rw [cnt_step hx]; rfl)), rfl, trivial⟩ ⟨by omega, .inr hok, (S1.take 1)⟩
        refine r_skip ?_
        refine r_inBlock ?_
        refine r_region ?_
        refine l_x rfl (x_mv rfl) ?_
        refine l_x rfl (x_add rfl rfl (by omega)) ?_
        refine l_x rfl (x_as rfl) ?_
        refine l_nil ?_
        exact IH (i + 1) _ _ (by omega) ⟨rfl, rfl, rfl, rfl, rfl, rfl, rfl, rfl, rfl, rfl, rfl, (congrArg (Value.int .i64) (by rw [cnt_stay hx hc106])), rfl, trivial⟩ ⟨by omega, .inr hok, (S1.take 1)⟩
      refine r_exit rfl ?_
      refine r_seq ?_
      refine r_seq ?_
      refine r_region ?_
      refine l_x rfl (x_mv rfl) ?_
      refine l_x rfl (x_mv rfl) ?_
      refine l_x rfl (x_mv rfl) ?_
      refine l_x rfl (x_add rfl rfl (by omega)) ?_
      refine l_x rfl (x_gtr rfl rfl) ?_
      refine l_x rfl (x_mv rfl) ?_
      refine l_splitd (d := 114) rfl (fun hg114 => ?_) (fun hg114 => ?_)
      · have h9 := rg_cnt hb9 hp9 ho0 hI; omega
      refine l_x rfl (x_mv rfl) ?_
      refine l_x rfl (x_neq rfl rfl) ?_
      refine l_x rfl (x_mv rfl) ?_
      refine l_splitd (d := 117) rfl (fun hg117 => ?_) (fun hg117 => ?_)
      · exact absurd rfl hg117
      refine l_pass rfl ?_
      refine l_pass rfl ?_
      refine l_x rfl (x_pick_f rfl rfl) ?_
      refine l_x rfl (x_pick_f rfl rfl) ?_
      refine l_x rfl (x_mv rfl) ?_
      refine l_x rfl (x_mv rfl) ?_
      refine l_x rfl (x_mv rfl) ?_
      refine l_split (d := 124) rfl (fun hg124 => ?_) (fun hg124 => ?_)
      · skip
        refine l_x rfl (x_mv rfl) ?_
        refine l_x rfl (x_neq rfl rfl) ?_
        refine l_x rfl (x_pick_t rfl rfl) ?_
        refine l_x rfl (x_pick_f rfl rfl) ?_
        refine l_x rfl (x_mv rfl) ?_
        refine l_splitd (d := 129) rfl (fun hg129 => ?_) (fun hg129 => ?_)
        · exact absurd rfl hg129
        refine l_x rfl (x_mv rfl) ?_
        refine l_x rfl (x_mv rfl) ?_
        refine l_x rfl (x_mv rfl) ?_
        refine l_x rfl (x_add rfl rfl (by omega)) ?_
        refine l_x rfl (x_gtr rfl rfl) ?_
        refine l_x rfl (x_pick_f rfl rfl) ?_
        refine l_x rfl (x_mv rfl) ?_
        refine l_splitd (d := 136) rfl (fun hg136 => ?_) (fun hg136 => ?_)
        · omega
        refine l_x rfl (x_mv rfl) ?_
        refine l_x rfl (x_mv rfl) ?_
        refine l_split (d := 138) rfl (fun hg138 => ?_) (fun hg138 => ?_)
        · skip
          refine l_x rfl (x_mv rfl) ?_
          refine l_x rfl (x_mv rfl) ?_
          refine l_x rfl (x_lss rfl rfl) ?_
          refine l_x rfl (x_pick_t rfl rfl) ?_
          refine l_x rfl (x_pick_f rfl rfl) ?_
          refine l_nil ?_
          refine r_ifd rfl (fun hc143 => ?_) (fun hc143 => ?_)
          · exact (rg_most hb9 hp9 hg138 ho0 hq9 hc143).elim
          refine r_skip ?_
          refine r_seq ?_
          refine r_seq ?_
          refine r_region ?_
          refine l_x rfl (x_mv rfl) ?_
          refine l_x rfl (x_neq rfl rfl) ?_
          refine l_nil ?_
          refine r_ifd rfl (fun hc145 => ?_) (fun hc145 => ?_)
          · exact absurd rfl hc145
          refine r_skip ?_
          refine r_seq ?_
          refine r_region ?_
          refine l_x rfl (x_mv rfl) ?_
          refine l_x rfl (x_mv rfl) ?_
          refine l_x rfl (x_buildS (out := [_, _]) (ss := [1, 1]) Tryz.zeroValue83 rfl Tryz.runUnderlying83 ⟨Tryz.sizeOf3, Tryz.sizeOf3, trivial⟩ (fill_cons rfl rfl rfl (Nat.le_of_ble_eq_true rfl) (fill_cons rfl rfl rfl (Nat.le_of_ble_eq_true rfl) fill_nil))) ?_
          refine l_buildSlice ECL [⟨o, (n9 : Int)⟩] S1 rfl Tryz.runUnderlying51 Tryz.sizeOf83 Tryz.zeroValue83 rfl ⟨rfl, rfl, trivial⟩ (Nat.le_of_ble_eq_true rfl) ?_
          intro v50 w47 S48 hl49
          refine l_x rfl (x_as rfl) ?_
          refine l_nil ?_
          refine r_seq ?_
          refine r_seq ?_
          refine r_region ?_
          refine l_x rfl (x_as rfl) ?_
          refine l_nil ?_
          refine r_block ?_
          refine r_loop (G := Nat × Value) (fun ⟨k, vl⟩ => cs9.length - k) (fun ⟨k, vl⟩ => [(1, Value.int .i64 day), (2, vs), (3, vq), (4, vo), (5, Value.int .i64 o), (6, .pointer (some ⟨b4, 0, none⟩)), (18, Value.int .i64 (n9 : Int)), (19, Value.int .i64 0), (22, vl), (23, Value.int .i64 k)]) (fun ⟨k, vl⟩ w' => (k ≤ cs9.length) ∧ Own nob w w' [blk b4 [vm, vf] 25, vec ECL vl ([(⟨o, (n9 : Int)⟩ : Clm)] ++ oth9 (cs9.take k) o)]) (0, v50) ⟨rfl, rfl, rfl, rfl, rfl, rfl, rfl, rfl, rfl, rfl, trivial⟩ ⟨Nat.zero_le _, (S48.pick [0, 1] (by decide) rfl)⟩ ?_
          rintro ⟨k, vl⟩ ρ w1b ⟨hk, S1b⟩ IHb
          refine r_seq ?_
          refine r_seq ?_
          refine r_region ?_
          refine l_x rfl (x_mv rfl) ?_
          refine l_x rfl (x_mv rfl) ?_
          refine l_x rfl (x_len (hC.le S1b.le) rfl Tryz.runUnderlying51) ?_
          refine l_x rfl (x_lss rfl rfl) ?_
          refine l_nil ?_
          refine r_ifd rfl (fun hc154 => ?_) (fun hc154 => ?_)
          · skip
            obtain ⟨c, hc⟩ : ∃ c, cs9[k]? = some c := ⟨_, List.getElem?_eq_getElem (by omega)⟩
            have hol9 := oth_len9 (cs := cs9) (k := k) (o := o)
            refine r_skip ?_
            refine r_seq ?_
            refine r_block ?_
            refine r_seq ?_
            refine r_region ?_
            refine l_x rfl (x_mv rfl) ?_
            refine l_x rfl (x_mv rfl) ?_
            refine l_index ECL rfl (hC.le S1b.le) rfl rfl Tryz.runUnderlying51 Tryz.sizeOf83 (by omega) (by first | assumption | exact List.getElem?_eq_getElem (by omega)) ?_
            intro b51 o52 hat53 row54
            refine l_x rfl (x_fieldAddr rfl Tryz.runUnderlying83 rfl Tryz.sizeOf3 (by decide)) ?_
            refine l_x rfl (x_load rfl (ld_cell Tryz.isAgg3 (row54 0 _ rfl))) ?_
            refine l_x rfl (x_mv rfl) ?_
            refine l_x rfl (x_neq rfl rfl) ?_
            refine l_nil ?_
            refine r_ifd rfl (fun hc163 => ?_) (fun hc163 => ?_)
            · skip
              refine r_region ?_
              refine l_x rfl (x_mv rfl) ?_
              refine l_x rfl (x_mv rfl) ?_
              refine l_x rfl (x_mv rfl) ?_
              refine l_index ECL rfl (hC.le S1b.le) rfl rfl Tryz.runUnderlying51 Tryz.sizeOf83 (by omega) hc ?_
              intro b55 o56 hat57 row58
              refine l_x rfl (x_load rfl (ld_row Tryz.isAgg83 Tryz.sizeOf83 rfl row58)) ?_
              refine l_buildSlice ECL [c] S1b rfl Tryz.runUnderlying51 Tryz.sizeOf83 Tryz.zeroValue83 rfl ⟨rfl, rfl, trivial⟩ (Nat.le_of_ble_eq_true rfl) ?_
              intro v62 w59 S60 hl61
              refine l_append ECL S60 1 rfl rfl rfl rfl (vec_rd (S60.at 2 rfl)) Tryz.underlying51 info83 rfl rfl rfl (by unfold maxLen; rw [List.length_append, List.length_singleton, List.length_singleton]; omega) (by rw [List.length_append, List.length_singleton, List.length_singleton]; show _ * 16 ≤ _; omega) ?_
              intro v66 w63 S64 hk65 hv67
              refine l_x rfl (x_as rfl) ?_
              refine l_nil ?_
              refine r_inBlock ?_
              refine r_region ?_
              refine l_x rfl (x_mv rfl) ?_
              refine l_x rfl (x_add rfl rfl (by omega)) ?_
              refine l_x rfl (x_as rfl) ?_
              refine l_nil ?_
              exact IHb (k + 1, v66) _ _ (by dsimp only; omega) ⟨rfl, rfl, rfl, rfl, rfl, rfl, rfl, rfl, rfl, rfl, trivial⟩ ⟨by omega, (by have h := S64.take 2; rw [List.append_assoc, ← oth_step hc hc163] at h; exact h)⟩
            refine r_skip ?_
            refine r_inBlock ?_
            refine r_region ?_
            refine l_x rfl (x_mv rfl) ?_
            refine l_x rfl (x_add rfl rfl (by omega)) ?_
            refine l_x rfl (x_as rfl) ?_
            refine l_nil ?_
            exact IHb (k + 1, vl) _ _ (by dsimp only; omega) ⟨rfl, rfl, rfl, rfl, rfl, rfl, rfl, rfl, rfl, rfl, trivial⟩ ⟨by omega, (by have h := S1b.take 2; rw [← oth_stay hc (Decidable.not_not.1 hc163)] at h; exact h)⟩
          obtain rfl : k = cs9.length := by omega
          refine r_exit rfl ?_
          refine r_seq ?_
          refine r_region ?_
          refine l_x rfl (x_load rfl (ld_blks (S1b.blk 0 rfl) Tryz.isAgg25 Tryz.sizeOf25 rfl rfl)) ?_
          refine l_x rfl (x_mv rfl) ?_
          refine l_x rfl (x_mv rfl) ?_
          refine l_x rfl (x_mv rfl) ?_
          refine l_call [] [] [_, _, _, _] rfl rfl Tryz.call27 rfl (c_AssignMT b vm vf day found _ ([(⟨o, (n9 : Int)⟩ : Clm)] ++ oth9 (cs9.take cs9.length) o) _ hm (by have := oth_len9 (cs := cs9) (k := cs9.length) (o := o); rw [List.length_append, List.length_singleton]; omega) hsg (all_begin (begin_of hr9 hb9) (by have := oth_len (cs := cs9) (o := o); omega) (by omega)) ((all_met hap9).trans hP9) _ (hB.le S1b.le) (hF.le S1b.le) (vec_rd (S1b.at 1 rfl))) ?_
          rintro _ w68 ⟨s17668, rfl, hl17668⟩
          have S69 := S1b.step hl17668
          refine l_x rfl (x_mv rfl) ?_
          refine l_x rfl (x_extract rfl rfl) ?_
          refine l_x rfl (x_extract rfl rfl) ?_
          refine l_x rfl (x_extract rfl rfl) ?_
          refine l_x rfl (x_as rfl) ?_
          refine l_x rfl (x_as rfl) ?_
          refine l_x rfl (x_as rfl) ?_
          refine l_nil ?_
          refine r_seq ?_
          refine r_region ?_
          refine l_x rfl (x_mv rfl) ?_
          refine l_x rfl (x_mv rfl) ?_
          refine l_x rfl (x_add rfl rfl (by omega)) ?_
          refine l_index ECL rfl (vec_rd (S69.at 1 rfl)) rfl rfl Tryz.runUnderlying51 Tryz.sizeOf83 (by omega) rfl ?_
          intro b70 o71 hat72 row73
          refine l_x rfl (x_fieldAddr rfl Tryz.runUnderlying83 rfl Tryz.sizeOf3 (by decide)) ?_
          refine l_storevi (a' := ⟨o, (n9 : Int) + 1⟩) (f := 1) S69 1 rfl rfl hat72 rfl rfl Tryz.sizeOf3 rfl (by decide) rfl ?_
          intro w74 S75 hk76
          refine l_nil ?_
          refine r_seq ?_
          refine r_region ?_
          refine l_x rfl (x_load rfl (ld_blks (S75.blk 0 rfl) Tryz.isAgg25 Tryz.sizeOf25 rfl rfl)) ?_
          refine l_x rfl (x_mv rfl) ?_
          refine l_x rfl (x_mv rfl) ?_
          refine l_x rfl (x_mv rfl) ?_
          refine l_call [] [] [_, _, _, _] rfl rfl Tryz.call27 rfl (c_AssignMF b vm vf day found _ ([(⟨o, (n9 : Int) + 1⟩ : Clm)] ++ oth9 (cs9.take cs9.length) o) _ hm (by have := oth_len9 (cs := cs9) (k := cs9.length) (o := o); rw [List.length_append, List.length_singleton]; omega) hsg (all_begin (begin_of hr9 hb9) (by have := oth_len (cs := cs9) (o := o); omega) (by omega)) (more_met hap9 hq9) _ (hB.le S75.le) (hF.le S75.le) (vec_rd (S75.at 1 rfl))) ?_
          rintro _ w77 ⟨s19077, rfl, hl19077⟩
          have S78 := S75.step hl19077
          refine l_x rfl (x_mv rfl) ?_
          refine l_x rfl (x_extract rfl rfl) ?_
          refine l_x rfl (x_extract rfl rfl) ?_
          refine l_x rfl (x_extract rfl rfl) ?_
          refine l_x rfl (x_as rfl) ?_
          refine l_x rfl (x_as rfl) ?_
          refine l_x rfl (x_as rfl) ?_
          refine l_nil ?_
          refine r_seq ?_
          refine r_region ?_
          refine l_call [] [] [] rfl rfl Tryz.call20 rfl (c_marked _ (hG.le S78.le)) ?_
          rintro _ w79 ⟨rfl, hl81⟩
          have S80 := S78.step hl81
          refine l_x rfl (x_mv rfl) ?_
          refine l_x rfl (x_mv rfl) ?_
          refine l_x rfl (x_pick_t rfl rfl) ?_
          refine l_x rfl (x_mv rfl) ?_
          refine l_x rfl (x_mv rfl) ?_
          refine l_x rfl (x_eql rfl rfl) ?_
          refine l_x rfl (x_pick_t rfl rfl) ?_
          refine l_x rfl (x_mv rfl) ?_
          refine l_splitd (d := 202) rfl (fun hg202 => ?_) (fun hg202 => ?_)
          · skip
            refine l_x rfl (x_mv rfl) ?_
            refine l_x rfl (x_not rfl) ?_
            refine l_x rfl (x_pick_t rfl rfl) ?_
            refine l_x rfl (x_mv rfl) ?_
            refine l_x rfl (x_mv rfl) ?_
            refine l_x rfl (x_eql rfl rfl) ?_
            refine l_x rfl (x_mv rfl) ?_
            refine l_splitd (d := 209) rfl (fun hg209 => ?_) (fun hg209 => ?_)
            · skip
              refine l_pass rfl ?_
              refine l_pass rfl ?_
              refine l_x rfl (x_pick_t rfl rfl) ?_
              refine l_x rfl (x_pick_t rfl rfl) ?_
              refine l_x rfl (x_as rfl) ?_
              refine l_nil ?_
              refine r_ret (rs := [.tmp 12]) [_] Tryz.func15 rfl ⟨rfl, trivial⟩ ?_
              exact ⟨by first | rfl | exact congrArg Value.bool (decide_eq_true rfl), S80.le⟩
            exact absurd rfl hg209
          exact absurd rfl hg202
        refine l_pass rfl ?_
        refine l_pass rfl ?_
        refine l_pass rfl ?_
        refine l_x rfl (x_pick_f rfl rfl) ?_
        refine l_x rfl (x_pick_f rfl rfl) ?_
        refine l_nil ?_
        refine r_false rfl ?_
        refine r_skip ?_
        refine r_seq ?_
        refine r_seq ?_
        refine r_region ?_
        refine l_x rfl (x_mv rfl) ?_
        refine l_x rfl (x_neq rfl rfl) ?_
        refine l_nil ?_
        refine r_ifd rfl (fun hc145 => ?_) (fun hc145 => ?_)
        · exact absurd rfl hc145
        refine r_skip ?_
        refine r_seq ?_
        refine r_region ?_
        refine l_x rfl (x_mv rfl) ?_
        refine l_x rfl (x_mv rfl) ?_
        refine l_x rfl (x_buildS (out := [_, _]) (ss := [1, 1]) Tryz.zeroValue83 rfl Tryz.runUnderlying83 ⟨Tryz.sizeOf3, Tryz.sizeOf3, trivial⟩ (fill_cons rfl rfl rfl (Nat.le_of_ble_eq_true rfl) (fill_cons rfl rfl rfl (Nat.le_of_ble_eq_true rfl) fill_nil))) ?_
        refine l_buildSlice ECL [⟨o, (n9 : Int)⟩] S1 rfl Tryz.runUnderlying51 Tryz.sizeOf83 Tryz.zeroValue83 rfl ⟨rfl, rfl, trivial⟩ (Nat.le_of_ble_eq_true rfl) ?_
        intro v85 w82 S83 hl84
        refine l_x rfl (x_as rfl) ?_
        refine l_nil ?_
        refine r_seq ?_
        refine r_seq ?_
        refine r_region ?_
        refine l_x rfl (x_as rfl) ?_
        refine l_nil ?_
        refine r_block ?_
        refine r_loop (G := Nat × Value) (fun ⟨k, vl⟩ => cs9.length - k) (fun ⟨k, vl⟩ => [(1, Value.int .i64 day), (2, vs), (3, vq), (4, vo), (5, Value.int .i64 o), (6, .pointer (some ⟨b4, 0, none⟩)), (18, Value.int .i64 (n9 : Int)), (19, Value.int .i64 0), (22, vl), (23, Value.int .i64 k)]) (fun ⟨k, vl⟩ w' => (k ≤ cs9.length) ∧ Own nob w w' [blk b4 [vm, vf] 25, vec ECL vl ([(⟨o, (n9 : Int)⟩ : Clm)] ++ oth9 (cs9.take k) o)]) (0, v85) ⟨rfl, rfl, rfl, rfl, rfl, rfl, rfl, rfl, rfl, rfl, trivial⟩ ⟨Nat.zero_le _, (S83.pick [0, 1] (by decide) rfl)⟩ ?_
        rintro ⟨k, vl⟩ ρ w1b ⟨hk, S1b⟩ IHb
        refine r_seq ?_
        refine r_seq ?_
        refine r_region ?_
        refine l_x rfl (x_mv rfl) ?_
        refine l_x rfl (x_mv rfl) ?_
        refine l_x rfl (x_len (hC.le S1b.le) rfl Tryz.runUnderlying51) ?_
        refine l_x rfl (x_lss rfl rfl) ?_
        refine l_nil ?_
        refine r_ifd rfl (fun hc154 => ?_) (fun hc154 => ?_)
        · skip
          obtain ⟨c, hc⟩ : ∃ c, cs9[k]? = some c := ⟨_, List.getElem?_eq_getElem (by omega)⟩
          have hol9 := oth_len9 (cs := cs9) (k := k) (o := o)
          refine r_skip ?_
          refine r_seq ?_
          refine r_block ?_
          refine r_seq ?_
          refine r_region ?_
          refine l_x rfl (x_mv rfl) ?_
          refine l_x rfl (x_mv rfl) ?_
          refine l_index ECL rfl (hC.le S1b.le) rfl rfl Tryz.runUnderlying51 Tryz.sizeOf83 (by omega) (by first | assumption | exact List.getElem?_eq_getElem (by omega)) ?_
          intro b86 o87 hat88 row89
          refine l_x rfl (x_fieldAddr rfl Tryz.runUnderlying83 rfl Tryz.sizeOf3 (by decide)) ?_
          refine l_x rfl (x_load rfl (ld_cell Tryz.isAgg3 (row89 0 _ rfl))) ?_
          refine l_x rfl (x_mv rfl) ?_
          refine l_x rfl (x_neq rfl rfl) ?_
          refine l_nil ?_
          refine r_ifd rfl (fun hc163 => ?_) (fun hc163 => ?_)
          · skip
            refine r_region ?_
            refine l_x rfl (x_mv rfl) ?_
            refine l_x rfl (x_mv rfl) ?_
            refine l_x rfl (x_mv rfl) ?_
            refine l_index ECL rfl (hC.le S1b.le) rfl rfl Tryz.runUnderlying51 Tryz.sizeOf83 (by omega) hc ?_
            intro b90 o91 hat92 row93
            refine l_x rfl (x_load rfl (ld_row Tryz.isAgg83 Tryz.sizeOf83 rfl row93)) ?_
            refine l_buildSlice ECL [c] S1b rfl Tryz.runUnderlying51 Tryz.sizeOf83 Tryz.zeroValue83 rfl ⟨rfl, rfl, trivial⟩ (Nat.le_of_ble_eq_true rfl) ?_
            intro v97 w94 S95 hl96
            refine l_append ECL S95 1 rfl rfl rfl rfl (vec_rd (S95.at 2 rfl)) Tryz.underlying51 info83 rfl rfl rfl (by unfold maxLen; rw [List.length_append, List.length_singleton, List.length_singleton]; omega) (by rw [List.length_append, List.length_singleton, List.length_singleton]; show _ * 16 ≤ _; omega) ?_
            intro v101 w98 S99 hk100 hv102
            refine l_x rfl (x_as rfl) ?_
            refine l_nil ?_
            refine r_inBlock ?_
            refine r_region ?_
            refine l_x rfl (x_mv rfl) ?_
            refine l_x rfl (x_add rfl rfl (by omega)) ?_
            refine l_x rfl (x_as rfl) ?_
            refine l_nil ?_
            exact IHb (k + 1, v101) _ _ (by dsimp only; omega) ⟨rfl, rfl, rfl, rfl, rfl, rfl, rfl, rfl, rfl, rfl, trivial⟩ ⟨by omega, (by have h := S99.take 2; rw [List.append_assoc, ← oth_step hc hc163] at h; exact h)⟩
          refine r_skip ?_
          refine r_inBlock ?_
          refine r_region ?_
          refine l_x rfl (x_mv rfl) ?_
          refine l_x rfl (x_add rfl rfl (by omega)) ?_
          refine l_x rfl (x_as rfl) ?_
          refine l_nil ?_
          exact IHb (k + 1, vl) _ _ (by dsimp only; omega) ⟨rfl, rfl, rfl, rfl, rfl, rfl, rfl, rfl, rfl, rfl, trivial⟩ ⟨by omega, (by have h := S1b.take 2; rw [← oth_stay hc (Decidable.not_not.1 hc163)] at h; exact h)⟩
        obtain rfl : k = cs9.length := by omega
        refine r_exit rfl ?_
        refine r_seq ?_
        refine r_region ?_
        refine l_x rfl (x_load rfl (ld_blks (S1b.blk 0 rfl) Tryz.isAgg25 Tryz.sizeOf25 rfl rfl)) ?_
        refine l_x rfl (x_mv rfl) ?_
        refine l_x rfl (x_mv rfl) ?_
        refine l_x rfl (x_mv rfl) ?_
        refine l_call [] [] [_, _, _, _] rfl rfl Tryz.call27 rfl (c_AssignMT b vm vf day found _ ([(⟨o, (n9 : Int)⟩ : Clm)] ++ oth9 (cs9.take cs9.length) o) _ hm (by have := oth_len9 (cs := cs9) (k := cs9.length) (o := o); rw [List.length_append, List.length_singleton]; omega) hsg (all_begin (begin_of hr9 hb9) (by have := oth_len (cs := cs9) (o := o); omega) (by omega)) ((all_met hap9).trans hP9) _ (hB.le S1b.le) (hF.le S1b.le) (vec_rd (S1b.at 1 rfl))) ?_
        rintro _ w103 ⟨s176103, rfl, hl176103⟩
        have S104 := S1b.step hl176103
        refine l_x rfl (x_mv rfl) ?_
        refine l_x rfl (x_extract rfl rfl) ?_
        refine l_x rfl (x_extract rfl rfl) ?_
        refine l_x rfl (x_extract rfl rfl) ?_
        refine l_x rfl (x_as rfl) ?_
        refine l_x rfl (x_as rfl) ?_
        refine l_x rfl (x_as rfl) ?_
        refine l_nil ?_
        refine r_seq ?_
        refine r_region ?_
        refine l_x rfl (x_mv rfl) ?_
        refine l_x rfl (x_mv rfl) ?_
        refine l_x rfl (x_add rfl rfl (by omega)) ?_
        refine l_index ECL rfl (vec_rd (S104.at 1 rfl)) rfl rfl Tryz.runUnderlying51 Tryz.sizeOf83 (by omega) rfl ?_
        intro b105 o106 hat107 row108
        refine l_x rfl (x_fieldAddr rfl Tryz.runUnderlying83 rfl Tryz.sizeOf3 (by decide)) ?_
        refine l_storevi (a' := ⟨o, (n9 : Int) + 1⟩) (f := 1) S104 1 rfl rfl hat107 rfl rfl Tryz.sizeOf3 rfl (by decide) rfl ?_
        intro w109 S110 hk111
        refine l_nil ?_
        refine r_seq ?_
        refine r_region ?_
        refine l_x rfl (x_load rfl (ld_blks (S110.blk 0 rfl) Tryz.isAgg25 Tryz.sizeOf25 rfl rfl)) ?_
        refine l_x rfl (x_mv rfl) ?_
        refine l_x rfl (x_mv rfl) ?_
        refine l_x rfl (x_mv rfl) ?_
        refine l_call [] [] [_, _, _, _] rfl rfl Tryz.call27 rfl (c_AssignMF b vm vf day found _ ([(⟨o, (n9 : Int) + 1⟩ : Clm)] ++ oth9 (cs9.take cs9.length) o) _ hm (by have := oth_len9 (cs := cs9) (k := cs9.length) (o := o); rw [List.length_append, List.length_singleton]; omega) hsg (all_begin (begin_of hr9 hb9) (by have := oth_len (cs := cs9) (o := o); omega) (by omega)) (more_met hap9 hq9) _ (hB.le S110.le) (hF.le S110.le) (vec_rd (S110.at 1 rfl))) ?_
        rintro _ w112 ⟨s190112, rfl, hl190112⟩
        have S113 := S110.step hl190112
        refine l_x rfl (x_mv rfl) ?_
        refine l_x rfl (x_extract rfl rfl) ?_
        refine l_x rfl (x_extract rfl rfl) ?_
        refine l_x rfl (x_extract rfl rfl) ?_
        refine l_x rfl (x_as rfl) ?_
        refine l_x rfl (x_as rfl) ?_
        refine l_x rfl (x_as rfl) ?_
        refine l_nil ?_
        refine r_seq ?_
        refine r_region ?_
        refine l_call [] [] [] rfl rfl Tryz.call20 rfl (c_marked _ (hG.le S113.le)) ?_
        rintro _ w114 ⟨rfl, hl116⟩
        have S115 := S113.step hl116
        refine l_x rfl (x_mv rfl) ?_
        refine l_x rfl (x_mv rfl) ?_
        refine l_x rfl (x_pick_t rfl rfl) ?_
        refine l_x rfl (x_mv rfl) ?_
        refine l_x rfl (x_mv rfl) ?_
        refine l_x rfl (x_eql rfl rfl) ?_
        refine l_x rfl (x_pick_t rfl rfl) ?_
        refine l_x rfl (x_mv rfl) ?_
        refine l_splitd (d := 202) rfl (fun hg202 => ?_) (fun hg202 => ?_)
        · skip
          refine l_x rfl (x_mv rfl) ?_
          refine l_x rfl (x_not rfl) ?_
          refine l_x rfl (x_pick_t rfl rfl) ?_
          refine l_x rfl (x_mv rfl) ?_
          refine l_x rfl (x_mv rfl) ?_
          refine l_x rfl (x_eql rfl rfl) ?_
          refine l_x rfl (x_mv rfl) ?_
          refine l_splitd (d := 209) rfl (fun hg209 => ?_) (fun hg209 => ?_)
          · skip
            refine l_pass rfl ?_
            refine l_pass rfl ?_
            refine l_x rfl (x_pick_t rfl rfl) ?_
            refine l_x rfl (x_pick_t rfl rfl) ?_
            refine l_x rfl (x_as rfl) ?_
            refine l_nil ?_
            refine r_ret (rs := [.tmp 12]) [_] Tryz.func15 rfl ⟨rfl, trivial⟩ ?_
            exact ⟨by first | rfl | exact congrArg Value.bool (decide_eq_true rfl), S115.le⟩
          exact absurd rfl hg209
        exact absurd rfl hg202
      refine l_pass rfl ?_
      refine l_pass rfl ?_
      refine l_x rfl (x_pick_f rfl rfl) ?_
      refine l_x rfl (x_pick_f rfl rfl) ?_
      refine l_x rfl (x_mv rfl) ?_
      refine l_x rfl (x_mv rfl) ?_
      refine l_x rfl (x_mv rfl) ?_
      refine l_x rfl (x_mv rfl) ?_
      refine l_x rfl (x_add rfl rfl (by omega)) ?_
      refine l_x rfl (x_gtr rfl rfl) ?_
      refine l_x rfl (x_pick_f rfl rfl) ?_
      refine l_x rfl (x_mv rfl) ?_
      refine l_splitd (d := 136) rfl (fun hg136 => ?_) (fun hg136 => ?_)
      · omega
      refine l_x rfl (x_mv rfl) ?_
      refine l_x rfl (x_mv rfl) ?_
      refine l_split (d := 138) rfl (fun hg138 => ?_) (fun hg138 => ?_)
      · skip
        refine l_x rfl (x_mv rfl) ?_
        refine l_x rfl (x_mv rfl) ?_
        refine l_x rfl (x_lss rfl rfl) ?_
        refine l_x rfl (x_pick_t rfl rfl) ?_
        refine l_x rfl (x_pick_f rfl rfl) ?_
        refine l_nil ?_
        refine r_ifd rfl (fun hc143 => ?_) (fun hc143 => ?_)
        · exact (rg_most hb9 hp9 hg138 ho0 hq9 hc143).elim
        refine r_skip ?_
        refine r_seq ?_
        refine r_seq ?_
        refine r_region ?_
        refine l_x rfl (x_mv rfl) ?_
        refine l_x rfl (x_neq rfl rfl) ?_
        refine l_nil ?_
        refine r_ifd rfl (fun hc145 => ?_) (fun hc145 => ?_)
        · exact absurd rfl hc145
        refine r_skip ?_
        refine r_seq ?_
        refine r_region ?_
        refine l_x rfl (x_mv rfl) ?_
        refine l_x rfl (x_mv rfl) ?_
        refine l_x rfl (x_buildS (out := [_, _]) (ss := [1, 1]) Tryz.zeroValue83 rfl Tryz.runUnderlying83 ⟨Tryz.sizeOf3, Tryz.sizeOf3, trivial⟩ (fill_cons rfl rfl rfl (Nat.le_of_ble_eq_true rfl) (fill_cons rfl rfl rfl (Nat.le_of_ble_eq_true rfl) fill_nil))) ?_
        refine l_buildSlice ECL [⟨o, (n9 : Int)⟩] S1 rfl Tryz.runUnderlying51 Tryz.sizeOf83 Tryz.zeroValue83 rfl ⟨rfl, rfl, trivial⟩ (Nat.le_of_ble_eq_true rfl) ?_
        intro v120 w117 S118 hl119
        refine l_x rfl (x_as rfl) ?_
        refine l_nil ?_
        refine r_seq ?_
        refine r_seq ?_
        refine r_region ?_
        refine l_x rfl (x_as rfl) ?_
        refine l_nil ?_
        refine r_block ?_
        refine r_loop (G := Nat × Value) (fun ⟨k, vl⟩ => cs9.length - k) (fun ⟨k, vl⟩ => [(1, Value.int .i64 day), (2, vs), (3, vq), (4, vo), (5, Value.int .i64 o), (6, .pointer (some ⟨b4, 0, none⟩)), (18, Value.int .i64 (n9 : Int)), (19, Value.int .i64 0), (22, vl), (23, Value.int .i64 k)]) (fun ⟨k, vl⟩ w' => (k ≤ cs9.length) ∧ Own nob w w' [blk b4 [vm, vf] 25, vec ECL vl ([(⟨o, (n9 : Int)⟩ : Clm)] ++ oth9 (cs9.take k) o)]) (0, v120) ⟨rfl, rfl, rfl, rfl, rfl, rfl, rfl, rfl, rfl, rfl, trivial⟩ ⟨Nat.zero_le _, (S118.pick [0, 1] (by decide) rfl)⟩ ?_
        rintro ⟨k, vl⟩ ρ w1b ⟨hk, S1b⟩ IHb
        refine r_seq ?_
        refine r_seq ?_
        refine r_region ?_
        refine l_x rfl (x_mv rfl) ?_
        refine l_x rfl (x_mv rfl) ?_
        refine l_x rfl (x_len (hC.le S1b.le) rfl Tryz.runUnderlying51) ?_
        refine l_x rfl (x_lss rfl rfl) ?_
        refine l_nil ?_
        refine r_ifd rfl (fun hc154 => ?_) (fun hc154 => ?_)
        · skip
          obtain ⟨c, hc⟩ : ∃ c, cs9[k]? = some c := ⟨_, List.getElem?_eq_getElem (by omega)⟩
          have hol9 := oth_len9 (cs := cs9) (k := k) (o := o)
          refine r_skip ?_
          refine r_seq ?_
          refine r_block ?_
          refine r_seq ?_
          refine r_region ?_
          refine l_x rfl (x_mv rfl) ?_
          refine l_x rfl (x_mv rfl) ?_
          refine l_index ECL rfl (hC.le S1b.le) rfl rfl Tryz.runUnderlying51 Tryz.sizeOf83 (by omega) (by first | assumption | exact List.getElem?_eq_getElem (by omega)) ?_
          intro b121 o122 hat123 row124
          refine l_x rfl (x_fieldAddr rfl Tryz.runUnderlying83 rfl Tryz.sizeOf3 (by decide)) ?_
          refine l_x rfl (x_load rfl (ld_cell Tryz.isAgg3 (row124 0 _ rfl))) ?_
          refine l_x rfl (x_mv rfl) ?_
          refine l_x rfl (x_neq rfl rfl) ?_
          refine l_nil ?_
          refine r_ifd rfl (fun hc163 => ?_) (fun hc163 => ?_)
          · skip
            refine r_region ?_
            refine l_x rfl (x_mv rfl) ?_
            refine l_x rfl (x_mv rfl) ?_
            refine l_x rfl (x_mv rfl) ?_
            refine l_index ECL rfl (hC.le S1b.le) rfl rfl Tryz.runUnderlying51 Tryz.sizeOf83 (by omega) hc ?_
            intro b125 o126 hat127 row128
            refine l_x rfl (x_load rfl (ld_row Tryz.isAgg83 Tryz.sizeOf83 rfl row128)) ?_
            refine l_buildSlice ECL [c] S1b rfl Tryz.runUnderlying51 Tryz.sizeOf83 Tryz.zeroValue83 rfl ⟨rfl, rfl, trivial⟩ (Nat.le_of_ble_eq_true rfl) ?_
            intro v132 w129 S130 hl131
            refine l_append ECL S130 1 rfl rfl rfl rfl (vec_rd (S130.at 2 rfl)) Tryz.underlying51 info83 rfl rfl rfl (by unfold maxLen; rw [List.length_append, List.length_singleton, List.length_singleton]; omega) (by rw [List.length_append, List.length_singleton, List.length_singleton]; show _ * 16 ≤ _; omega) ?_
            intro v136 w133 S134 hk135 hv137
            refine l_x rfl (x_as rfl) ?_
            refine l_nil ?_
            refine r_inBlock ?_
            refine r_region ?_
            refine l_x rfl (x_mv rfl) ?_
            refine l_x rfl (x_add rfl rfl (by omega)) ?_
            refine l_x rfl (x_as rfl) ?_
            refine l_nil ?_
            exact IHb (k + 1, v136) _ _ (by dsimp only; omega) ⟨rfl, rfl, rfl, rfl, rfl, rfl, rfl, rfl, rfl, rfl, trivial⟩ ⟨by omega, (by have h := S134.take 2; rw [List.append_assoc, ← oth_step hc hc163] at h; exact h)⟩
          refine r_skip ?_
          refine r_inBlock ?_
          refine r_region ?_
          refine l_x rfl (x_mv rfl) ?_
          refine l_x rfl (x_add rfl rfl (by omega)) ?_
          refine l_x rfl (x_as rfl) ?_
          refine l_nil ?_
          exact IHb (k + 1, vl) _ _ (by dsimp only; omega) ⟨rfl, rfl, rfl, rfl, rfl, rfl, rfl, rfl, rfl, rfl, trivial⟩ ⟨by omega, (by have h := S1b.take 2; rw [← oth_stay hc (Decidable.not_not.1 hc163)] at h; exact h)⟩
        obtain rfl : k = cs9.length := by omega
        refine r_exit rfl ?_
        refine r_seq ?_
        refine r_region ?_
        refine l_x rfl (x_load rfl (ld_blks (S1b.blk 0 rfl) Tryz.isAgg25 Tryz.sizeOf25 rfl rfl)) ?_
        refine l_x rfl (x_mv rfl) ?_
        refine l_x rfl (x_mv rfl) ?_
        refine l_x rfl (x_mv rfl) ?_
        refine l_call [] [] [_, _, _, _] rfl rfl Tryz.call27 rfl (c_AssignMT b vm vf day found _ ([(⟨o, (n9 : Int)⟩ : Clm)] ++ oth9 (cs9.take cs9.length) o) _ hm (by have := oth_len9 (cs := cs9) (k := cs9.length) (o := o); rw [List.length_append, List.length_singleton]; omega) hsg (all_begin (begin_of hr9 hb9) (by have := oth_len (cs := cs9) (o := o); omega) (by omega)) ((all_met hap9).trans hP9) _ (hB.le S1b.le) (hF.le S1b.le) (vec_rd (S1b.at 1 rfl))) ?_
        rintro _ w138 ⟨s176138, rfl, hl176138⟩
        have S139 := S1b.step hl176138
        refine l_x rfl (x_mv rfl) ?_
        refine l_x rfl (x_extract rfl rfl) ?_
        refine l_x rfl (x_extract rfl rfl) ?_
        refine l_x rfl (x_extract rfl rfl) ?_
        refine l_x rfl (x_as rfl) ?_
        refine l_x rfl (x_as rfl) ?_
        refine l_x rfl (x_as rfl) ?_
        refine l_nil ?_
        refine r_seq ?_
        refine r_region ?_
        refine l_x rfl (x_mv rfl) ?_
        refine l_x rfl (x_mv rfl) ?_
        refine l_x rfl (x_add rfl rfl (by omega)) ?_
        refine l_index ECL rfl (vec_rd (S139.at 1 rfl)) rfl rfl Tryz.runUnderlying51 Tryz.sizeOf83 (by omega) rfl ?_
        intro b140 o141 hat142 row143
        refine l_x rfl (x_fieldAddr rfl Tryz.runUnderlying83 rfl Tryz.sizeOf3 (by decide)) ?_
        refine l_storevi (a' := ⟨o, (n9 : Int) + 1⟩) (f := 1) S139 1 rfl rfl hat142 rfl rfl Tryz.sizeOf3 rfl (by decide) rfl ?_
        intro w144 S145 hk146
        refine l_nil ?_
        refine r_seq ?_
        refine r_region ?_
        refine l_x rfl (x_load rfl (ld_blks (S145.blk 0 rfl) Tryz.isAgg25 Tryz.sizeOf25 rfl rfl)) ?_
        refine l_x rfl (x_mv rfl) ?_
        refine l_x rfl (x_mv rfl) ?_
        refine l_x rfl (x_mv rfl) ?_
        refine l_call [] [] [_, _, _, _] rfl rfl Tryz.call27 rfl (c_AssignMF b vm vf day found _ ([(⟨o, (n9 : Int) + 1⟩ : Clm)] ++ oth9 (cs9.take cs9.length) o) _ hm (by have := oth_len9 (cs := cs9) (k := cs9.length) (o := o); rw [List.length_append, List.length_singleton]; omega) hsg (all_begin (begin_of hr9 hb9) (by have := oth_len (cs := cs9) (o := o); omega) (by omega)) (more_met hap9 hq9) _ (hB.le S145.le) (hF.le S145.le) (vec_rd (S145.at 1 rfl))) ?_
        rintro _ w147 ⟨s190147, rfl, hl190147⟩
        have S148 := S145.step hl190147
        refine l_x rfl (x_mv rfl) ?_
        refine l_x rfl (x_extract rfl rfl) ?_
        refine l_x rfl (x_extract rfl rfl) ?_
        refine l_x rfl (x_extract rfl rfl) ?_
        refine l_x rfl (x_as rfl) ?_
        refine l_x rfl (x_as rfl) ?_
        refine l_x rfl (x_as rfl) ?_
        refine l_nil ?_
        refine r_seq ?_
        refine r_region ?_
        refine l_call [] [] [] rfl rfl Tryz.call20 rfl (c_marked _ (hG.le S148.le)) ?_
        rintro _ w149 ⟨rfl, hl151⟩
        have S150 := S148.step hl151
        refine l_x rfl (x_mv rfl) ?_
        refine l_x rfl (x_mv rfl) ?_
        refine l_x rfl (x_pick_t rfl rfl) ?_
        refine l_x rfl (x_mv rfl) ?_
        refine l_x rfl (x_mv rfl) ?_
        refine l_x rfl (x_eql rfl rfl) ?_
        refine l_x rfl (x_pick_t rfl rfl) ?_
        refine l_x rfl (x_mv rfl) ?_
        refine l_splitd (d := 202) rfl (fun hg202 => ?_) (fun hg202 => ?_)
        · skip
          refine l_x rfl (x_mv rfl) ?_
          refine l_x rfl (x_not rfl) ?_
          refine l_x rfl (x_pick_t rfl rfl) ?_
          refine l_x rfl (x_mv rfl) ?_
          refine l_x rfl (x_mv rfl) ?_
          refine l_x rfl (x_eql rfl rfl) ?_
          refine l_x rfl (x_mv rfl) ?_
          refine l_splitd (d := 209) rfl (fun hg209 => ?_) (fun hg209 => ?_)
          · skip
            refine l_pass rfl ?_
            refine l_pass rfl ?_
            refine l_x rfl (x_pick_t rfl rfl) ?_
            refine l_x rfl (x_pick_t rfl rfl) ?_
            refine l_x rfl (x_as rfl) ?_
            refine l_nil ?_
            refine r_ret (rs := [.tmp 12]) [_] Tryz.func15 rfl ⟨rfl, trivial⟩ ?_
            exact ⟨by first | rfl | exact congrArg Value.bool (decide_eq_true rfl), S150.le⟩
          exact absurd rfl hg209
        exact absurd rfl hg202
      refine l_pass rfl ?_
      refine l_pass rfl ?_
      refine l_pass rfl ?_
      refine l_x rfl (x_pick_f rfl rfl) ?_
      refine l_x rfl (x_pick_f rfl rfl) ?_
      refine l_nil ?_
      refine r_false rfl ?_
      refine r_skip ?_
      refine r_seq ?_
      refine r_seq ?_
      refine r_region ?_
      refine l_x rfl (x_mv rfl) ?_
      refine l_x rfl (x_neq rfl rfl) ?_
      refine l_nil ?_
      refine r_ifd rfl (fun hc145 => ?_) (fun hc145 => ?_)
      · exact absurd rfl hc145
      refine r_skip ?_
      refine r_seq ?_
      refine r_region ?_
      refine l_x rfl (x_mv rfl) ?_
      refine l_x rfl (x_mv rfl) ?_
      refine l_x rfl (x_buildS (out := [_, _]) (ss := [1, 1]) Tryz.zeroValue83 rfl Tryz.runUnderlying83 ⟨Tryz.sizeOf3, Tryz.sizeOf3, trivial⟩ (fill_cons rfl rfl rfl (Nat.le_of_ble_eq_true rfl) (fill_cons rfl rfl rfl (Nat.le_of_ble_eq_true rfl) fill_nil))) ?_
      refine l_buildSlice ECL [⟨o, (n9 : Int)⟩] S1 rfl Tryz.runUnderlying51 Tryz.sizeOf83 Tryz.zeroValue83 rfl ⟨rfl, rfl, trivial⟩ (Nat.le_of_ble_eq_true rfl) ?_
      intro v155 w152 S153 hl154
      refine l_x rfl (x_as rfl) ?_
      refine l_nil ?_
      refine r_seq ?_
      refine r_seq ?_
      refine r_region ?_
      refine l_x rfl (x_as rfl) ?_
      refine l_nil ?_
      refine r_block ?_
      refine r_loop (G := Nat × Value) (fun ⟨k, vl⟩ => cs9.length - k) (fun ⟨k, vl⟩ => [(1, Value.int .i64 day), (2, vs), (3, vq), (4, vo), (5, Value.int .i64 o), (6, .pointer (some ⟨b4, 0, none⟩)), (18, Value.int .i64 (n9 : Int)), (19, Value.int .i64 0), (22, vl), (23, Value.int .i64 k)]) (fun ⟨k, vl⟩ w' => (k ≤ cs9.length) ∧ Own nob w w' [blk b4 [vm, vf] 25, vec ECL vl ([(⟨o, (n9 : Int)⟩ : Clm)] ++ oth9 (cs9.take k) o)]) (0, v155) ⟨rfl, rfl, rfl, rfl, rfl, rfl, rfl, rfl, rfl, rfl, trivial⟩ ⟨Nat.zero_le _, (S153.pick [0, 1] (by decide) rfl)⟩ ?_
      rintro ⟨k, vl⟩ ρ w1b ⟨hk, S1b⟩ IHb
      refine r_seq ?_
      refine r_seq ?_
      refine r_region ?_
      refine l_x rfl (x_mv rfl) ?_
      refine l_x rfl (x_mv rfl) ?_
      refine l_x rfl (x_len (hC.le S1b.le) rfl Tryz.runUnderlying51) ?_
      refine l_x rfl (x_lss rfl rfl) ?_
      refine l_nil ?_
      refine r_ifd rfl (fun hc154 => ?_) (fun hc154 => ?_)
      · skip
        obtain ⟨c, hc⟩ : ∃ c, cs9[k]? = some c := ⟨_, List.getElem?_eq_getElem (by omega)⟩
        have hol9 := oth_len9 (cs := cs9) (k := k) (o := o)
        refine r_skip ?_
        refine r_seq ?_
        refine r_block ?_
        refine r_seq ?_
        refine r_region ?_
        refine l_x rfl (x_mv rfl) ?_
        refine l_x rfl (x_mv rfl) ?_
        refine l_index ECL rfl (hC.le S1b.le) rfl rfl Tryz.runUnderlying51 Tryz.sizeOf83 (by omega) (by first | assumption | exact List.getElem?_eq_getElem (by omega)) ?_
        intro b156 o157 hat158 row159
        refine l_x rfl (x_fieldAddr rfl Tryz.runUnderlying83 rfl Tryz.sizeOf3 (by decide)) ?_
        refine l_x rfl (x_load rfl (ld_cell Tryz.isAgg3 (row159 0 _ rfl))) ?_
        refine l_x rfl (x_mv rfl) ?_
        refine l_x rfl (x_neq rfl rfl) ?_
        refine l_nil ?_
        refine r_ifd rfl (fun hc163 => ?_) (fun hc163 => ?_)
        · skip
          refine r_region ?_
          refine l_x rfl (x_mv rfl) ?_
          refine l_x rfl (x_mv rfl) ?_
          refine l_x rfl (x_mv rfl) ?_
          refine l_index ECL rfl (hC.le S1b.le) rfl rfl Tryz.runUnderlying51 Tryz.sizeOf83 (by omega) hc ?_
          intro b160 o161 hat162 row163
          refine l_x rfl (x_load rfl (ld_row Tryz.isAgg83 Tryz.sizeOf83 rfl row163)) ?_
          refine l_buildSlice ECL [c] S1b rfl Tryz.runUnderlying51 Tryz.sizeOf83 Tryz.zeroValue83 rfl ⟨rfl, rfl, trivial⟩ (Nat.le_of_ble_eq_true rfl) ?_
          intro v167 w164 S165 hl166
          refine l_append ECL S165 1 rfl rfl rfl rfl (vec_rd (S165.at 2 rfl)) Tryz.underlying51 info83 rfl rfl rfl (by unfold maxLen; rw [List.length_append, List.length_singleton, List.length_singleton]; omega) (by rw [List.length_append, List.length_singleton, List.length_singleton]; show _ * 16 ≤ _; omega) ?_
          intro v171 w168 S169 hk170 hv172
          refine l_x rfl (x_as rfl) ?_
          refine l_nil ?_
          refine r_inBlock ?_
          refine r_region ?_
          refine l_x rfl (x_mv rfl) ?_
          refine l_x rfl (x_add rfl rfl (by omega)) ?_
          refine l_x rfl (x_as rfl) ?_
          refine l_nil ?_
          exact IHb (k + 1, v171) _ _ (by dsimp only; omega) ⟨rfl, rfl, rfl, rfl, rfl, rfl, rfl, rfl, rfl, rfl, trivial⟩ ⟨by omega, (by have h := S169.take 2; rw [List.append_assoc, ← oth_step hc hc163] at h; exact h)⟩
        refine r_skip ?_
        refine r_inBlock ?_
        refine r_region ?_
        refine l_x rfl (x_mv rfl) ?_
        refine l_x rfl (x_add rfl rfl (by omega)) ?_
        refine l_x rfl (x_as rfl) ?_
        refine l_nil ?_
        exact IHb (k + 1, vl) _ _ (by dsimp only; omega) ⟨rfl, rfl, rfl, rfl, rfl, rfl, rfl, rfl, rfl, rfl, trivial⟩ ⟨by omega, (by have h := S1b.take 2; rw [← oth_stay hc (Decidable.not_not.1 hc163)] at h; exact h)⟩
      obtain rfl : k = cs9.length := by omega
      refine r_exit rfl ?_
      refine r_seq ?_
      refine r_region ?_
      refine l_x rfl (x_load rfl (ld_blks (S1b.blk 0 rfl) Tryz.isAgg25 Tryz.sizeOf25 rfl rfl)) ?_
      refine l_x rfl (x_mv rfl) ?_
      refine l_x rfl (x_mv rfl) ?_
      refine l_x rfl (x_mv rfl) ?_
      refine l_call [] [] [_, _, _, _] rfl rfl Tryz.call27 rfl (c_AssignMT b vm vf day found _ ([(⟨o, (n9 : Int)⟩ : Clm)] ++ oth9 (cs9.take cs9.length) o) _ hm (by have := oth_len9 (cs := cs9) (k := cs9.length) (o := o); rw [List.length_append, List.length_singleton]; omega) hsg (all_begin (begin_of hr9 hb9) (by have := oth_len (cs := cs9) (o := o); omega) (by omega)) ((all_met hap9).trans hP9) _ (hB.le S1b.le) (hF.le S1b.le) (vec_rd (S1b.at 1 rfl))) ?_
      rintro _ w173 ⟨s176173, rfl, hl176173⟩
      have S174 := S1b.step hl176173
      refine l_x rfl (x_mv rfl) ?_
      refine l_x rfl (x_extract rfl rfl) ?_
      refine l_x rfl (x_extract rfl rfl) ?_
      refine l_x rfl (x_extract rfl rfl) ?_
      refine l_x rfl (x_as rfl) ?_
      refine l_x rfl (x_as rfl) ?_
      refine l_x rfl (x_as rfl) ?_
      refine l_nil ?_
      refine r_seq ?_
      refine r_region ?_
      refine l_x rfl (x_mv rfl) ?_
      refine l_x rfl (x_mv rfl) ?_
      refine l_x rfl (x_add rfl rfl (by omega)) ?_
      refine l_index ECL rfl (vec_rd (S174.at 1 rfl)) rfl rfl Tryz.runUnderlying51 Tryz.sizeOf83 (by omega) rfl ?_
      intro b175 o176 hat177 row178
      refine l_x rfl (x_fieldAddr rfl Tryz.runUnderlying83 rfl Tryz.sizeOf3 (by decide)) ?_
      refine l_storevi (a' := ⟨o, (n9 : Int) + 1⟩) (f := 1) S174 1 rfl rfl hat177 rfl rfl Tryz.sizeOf3 rfl (by decide) rfl ?_
      intro w179 S180 hk181
      refine l_nil ?_
      refine r_seq ?_
      refine r_region ?_
      refine l_x rfl (x_load rfl (ld_blks (S180.blk 0 rfl) Tryz.isAgg25 Tryz.sizeOf25 rfl rfl)) ?_
      refine l_x rfl (x_mv rfl) ?_
      refine l_x rfl (x_mv rfl) ?_
      refine l_x rfl (x_mv rfl) ?_
      refine l_call [] [] [_, _, _, _] rfl rfl Tryz.call27 rfl (c_AssignMF b vm vf day found _ ([(⟨o, (n9 : Int) + 1⟩ : Clm)] ++ oth9 (cs9.take cs9.length) o) _ hm (by have := oth_len9 (cs := cs9) (k := cs9.length) (o := o); rw [List.length_append, List.length_singleton]; omega) hsg (all_begin (begin_of hr9 hb9) (by have := oth_len (cs := cs9) (o := o); omega) (by omega)) (more_met hap9 hq9) _ (hB.le S180.le) (hF.le S180.le) (vec_rd (S180.at 1 rfl))) ?_
      rintro _ w182 ⟨s190182, rfl, hl190182⟩
      have S183 := S180.step hl190182
      refine l_x rfl (x_mv rfl) ?_
      refine l_x rfl (x_extract rfl rfl) ?_
      refine l_x rfl (x_extract rfl rfl) ?_
      refine l_x rfl (x_extract rfl rfl) ?_
      refine l_x rfl (x_as rfl) ?_
      refine l_x rfl (x_as rfl) ?_
      refine l_x rfl (x_as rfl) ?_
      refine l_nil ?_
      refine r_seq ?_
      refine r_region ?_
      refine l_call [] [] [] rfl rfl Tryz.call20 rfl (c_marked _ (hG.le S183.le)) ?_
      rintro _ w184 ⟨rfl, hl186⟩
      have S185 := S183.step hl186
      refine l_x rfl (x_mv rfl) ?_
      refine l_x rfl (x_mv rfl) ?_
      refine l_x rfl (x_pick_t rfl rfl) ?_
      refine l_x rfl (x_mv rfl) ?_
      refine l_x rfl (x_mv rfl) ?_
      refine l_x rfl (x_eql rfl rfl) ?_
      refine l_x rfl (x_pick_t rfl rfl) ?_
      refine l_x rfl (x_mv rfl) ?_
      refine l_splitd (d := 202) rfl (fun hg202 => ?_) (fun hg202 => ?_)
      · skip
        refine l_x rfl (x_mv rfl) ?_
        refine l_x rfl (x_not rfl) ?_
        refine l_x rfl (x_pick_t rfl rfl) ?_
        refine l_x rfl (x_mv rfl) ?_
        refine l_x rfl (x_mv rfl) ?_
        refine l_x rfl (x_eql rfl rfl) ?_
        refine l_x rfl (x_mv rfl) ?_
        refine l_splitd (d := 209) rfl (fun hg209 => ?_) (fun hg209 => ?_)
        · skip
          refine l_pass rfl ?_
          refine l_pass rfl ?_
          refine l_x rfl (x_pick_t rfl rfl) ?_
          refine l_x rfl (x_pick_t rfl rfl) ?_
          refine l_x rfl (x_as rfl) ?_
          refine l_nil ?_
          refine r_ret (rs := [.tmp 12]) [_] Tryz.func15 rfl ⟨rfl, trivial⟩ ?_
          exact ⟨by first | rfl | exact congrArg Value.bool (decide_eq_true rfl), S185.le⟩
        exact absurd rfl hg209
      exact absurd rfl hg202
    refine l_pass rfl ?_
    refine l_x rfl (x_pick_f rfl rfl) ?_
    refine l_nil ?_
    refine r_false rfl ?_
    refine r_exit rfl ?_
    refine r_seq ?_
    refine r_seq ?_
    refine r_region ?_
    refine l_x rfl (x_mv rfl) ?_
    refine l_x rfl (x_mv rfl) ?_
    refine l_x rfl (x_mv rfl) ?_
    refine l_x rfl (x_add rfl rfl (by omega)) ?_
    refine l_x rfl (x_gtr rfl rfl) ?_
    refine l_x rfl (x_mv rfl) ?_
    refine l_splitd (d := 114) rfl (fun hg114 => ?_) (fun hg114 => ?_)
    · have h9 := rg_cnt hb9 hp9 ho0 hI; omega
    refine l_x rfl (x_mv rfl) ?_
    refine l_x rfl (x_neq rfl rfl) ?_
    refine l_x rfl (x_mv rfl) ?_
    refine l_splitd (d := 117) rfl (fun hg117 => ?_) (fun hg117 => ?_)
    · exact absurd rfl hg117
    refine l_pass rfl ?_
    refine l_pass rfl ?_
    refine l_x rfl (x_pick_f rfl rfl) ?_
    refine l_x rfl (x_pick_f rfl rfl) ?_
    refine l_x rfl (x_mv rfl) ?_
    refine l_x rfl (x_mv rfl) ?_
    refine l_x rfl (x_mv rfl) ?_
    refine l_split (d := 124) rfl (fun hg124 => ?_) (fun hg124 => ?_)
    · skip
      refine l_x rfl (x_mv rfl) ?_
      refine l_x rfl (x_neq rfl rfl) ?_
      refine l_x rfl (x_pick_t rfl rfl) ?_
      refine l_x rfl (x_pick_f rfl rfl) ?_
      refine l_x rfl (x_mv rfl) ?_
      refine l_splitd (d := 129) rfl (fun hg129 => ?_) (fun hg129 => ?_)
      · exact absurd rfl hg129
      refine l_x rfl (x_mv rfl) ?_
      refine l_x rfl (x_mv rfl) ?_
      refine l_x rfl (x_mv rfl) ?_
      refine l_x rfl (x_add rfl rfl (by omega)) ?_
      refine l_x rfl (x_gtr rfl rfl) ?_
      refine l_x rfl (x_pick_f rfl rfl) ?_
      refine l_x rfl (x_mv rfl) ?_
      refine l_splitd (d := 136) rfl (fun hg136 => ?_) (fun hg136 => ?_)
      · omega
      refine l_x rfl (x_mv rfl) ?_
      refine l_x rfl (x_mv rfl) ?_
      refine l_split (d := 138) rfl (fun hg138 => ?_) (fun hg138 => ?_)
      · skip
        refine l_x rfl (x_mv rfl) ?_
        refine l_x rfl (x_mv rfl) ?_
        refine l_x rfl (x_lss rfl rfl) ?_
        refine l_x rfl (x_pick_t rfl rfl) ?_
        refine l_x rfl (x_pick_f rfl rfl) ?_
        refine l_nil ?_
        refine r_ifd rfl (fun hc143 => ?_) (fun hc143 => ?_)
        · exact (rg_most hb9 hp9 hg138 ho0 hq9 hc143).elim
        refine r_skip ?_
        refine r_seq ?_
        refine r_seq ?_
        refine r_region ?_
        refine l_x rfl (x_mv rfl) ?_
        refine l_x rfl (x_neq rfl rfl) ?_
        refine l_nil ?_
        refine r_ifd rfl (fun hc145 => ?_) (fun hc145 => ?_)
        · exact absurd rfl hc145
        refine r_skip ?_
        refine r_seq ?_
        refine r_region ?_
        refine l_x rfl (x_mv rfl) ?_
        refine l_x rfl (x_mv rfl) ?_
        refine l_x rfl (x_buildS (out := [_, _]) (ss := [1, 1]) Tryz.zeroValue83 rfl Tryz.runUnderlying83 ⟨Tryz.sizeOf3, Tryz.sizeOf3, trivial⟩ (fill_cons rfl rfl rfl (Nat.le_of_ble_eq_true rfl) (fill_cons rfl rfl rfl (Nat.le_of_ble_eq_true rfl) fill_nil))) ?_
        refine l_buildSlice ECL [⟨o, (n9 : Int)⟩] S1 rfl Tryz.runUnderlying51 Tryz.sizeOf83 Tryz.zeroValue83 rfl ⟨rfl, rfl, trivial⟩ (Nat.le_of_ble_eq_true rfl) ?_
        intro v190 w187 S188 hl189
        refine l_x rfl (x_as rfl) ?_
        refine l_nil ?_
        refine r_seq ?_
        refine r_seq ?_
        refine r_region ?_
        refine l_x rfl (x_as rfl) ?_
        refine l_nil ?_
        refine r_block ?_
        refine r_loop (G := Nat × Value) (fun ⟨k, vl⟩ => cs9.length - k) (fun ⟨k, vl⟩ => [(1, Value.int .i64 day), (2, vs), (3, vq), (4, vo), (5, Value.int .i64 o), (6, .pointer (some ⟨b4, 0, none⟩)), (18, Value.int .i64 (n9 : Int)), (19, Value.int .i64 0), (22, vl), (23, Value.int .i64 k)]) (fun ⟨k, vl⟩ w' => (k ≤ cs9.length) ∧ Own nob w w' [blk b4 [vm, vf] 25, vec ECL vl ([(⟨o, (n9 : Int)⟩ : Clm)] ++ oth9 (cs9.take k) o)]) (0, v190) ⟨rfl, rfl, rfl, rfl, rfl, rfl, rfl, rfl, rfl, rfl, trivial⟩ ⟨Nat.zero_le _, (S188.pick [0, 1] (by decide) rfl)⟩ ?_
        rintro ⟨k, vl⟩ ρ w1b ⟨hk, S1b⟩ IHb
        refine r_seq ?_
        refine r_seq ?_
        refine r_region ?_
        refine l_x rfl (x_mv rfl) ?_
        refine l_x rfl (x_mv rfl) ?_
        refine l_x rfl (x_len (hC.le S1b.le) rfl Tryz.runUnderlying51) ?_
        refine l_x rfl (x_lss rfl rfl) ?_
        refine l_nil ?_
        refine r_ifd rfl (fun hc154 => ?_) (fun hc154 => ?_)
        · skip
          obtain ⟨c, hc⟩ : ∃ c, cs9[k]? = some c := ⟨_, List.getElem?_eq_getElem (by omega)⟩
          have hol9 := oth_len9 (cs := cs9) (k := k) (o := o)
          refine r_skip ?_
          refine r_seq ?_
          refine r_block ?_
          refine r_seq ?_
          refine r_region ?_
          refine l_x rfl (x_mv rfl) ?_
          refine l_x rfl (x_mv rfl) ?_
          refine l_index ECL rfl (hC.le S1b.le) rfl rfl Tryz.runUnderlying51 Tryz.sizeOf83 (by omega) (by first | assumption | exact List.getElem?_eq_getElem (by omega)) ?_
          intro b191 o192 hat193 row194
          refine l_x rfl (x_fieldAddr rfl Tryz.runUnderlying83 rfl Tryz.sizeOf3 (by decide)) ?_
          refine l_x rfl (x_load rfl (ld_cell Tryz.isAgg3 (row194 0 _ rfl))) ?_
          refine l_x rfl (x_mv rfl) ?_
          refine l_x rfl (x_neq rfl rfl) ?_
          refine l_nil ?_
          refine r_ifd rfl (fun hc163 => ?_) (fun hc163 => ?_)
          · skip
            refine r_region ?_
            refine l_x rfl (x_mv rfl) ?_
            refine l_x rfl (x_mv rfl) ?_
            refine l_x rfl (x_mv rfl) ?_
            refine l_index ECL rfl (hC.le S1b.le) rfl rfl Tryz.runUnderlying51 Tryz.sizeOf83 (by omega) hc ?_
            intro b195 o196 hat197 row198
            refine l_x rfl (x_load rfl (ld_row Tryz.isAgg83 Tryz.sizeOf83 rfl row198)) ?_
            refine l_buildSlice ECL [c] S1b rfl Tryz.runUnderlying51 Tryz.sizeOf83 Tryz.zeroValue83 rfl ⟨rfl, rfl, trivial⟩ (Nat.le_of_ble_eq_true rfl) ?_
            intro v202 w199 S200 hl201
            refine l_append ECL S200 1 rfl rfl rfl rfl (vec_rd (S200.at 2 rfl)) Tryz.underlying51 info83 rfl rfl rfl (by unfold maxLen; rw [List.length_append, List.length_singleton, List.length_singleton]; omega) (by rw [List.length_append, List.length_singleton, List.length_singleton]; show _ * 16 ≤ _; omega) ?_
            intro v206 w203 S204 hk205 hv207
            refine l_x rfl (x_as rfl) ?_
            refine l_nil ?_
            refine r_inBlock ?_
            refine r_region ?_
            refine l_x rfl (x_mv rfl) ?_
            refine l_x rfl (x_add rfl rfl (by omega)) ?_
            refine l_x rfl (x_as rfl) ?_
            refine l_nil ?_
            exact IHb (k + 1, v206) _ _ (by dsimp only; omega) ⟨rfl, rfl, rfl, rfl, rfl, rfl, rfl, rfl, rfl, rfl, trivial⟩ ⟨by omega, (by have h := S204.take 2; rw [List.append_assoc, ← oth_step hc hc163] at h; exact h)⟩
          refine r_skip ?_
          refine r_inBlock ?_
          refine r_region ?_
          refine l_x rfl (x_mv rfl) ?_
          refine l_x rfl (x_add rfl rfl (by omega)) ?_
          refine l_x rfl (x_as rfl) ?_
          refine l_nil ?_
          exact IHb (k + 1, vl) _ _ (by dsimp only; omega) ⟨rfl, rfl, rfl, rfl, rfl, rfl, rfl, rfl, rfl, rfl, trivial⟩ ⟨by omega, (by have h := S1b.take 2; rw [← oth_stay hc (Decidable.not_not.1 hc163)] at h; exact h)⟩
        obtain rfl : k = cs9.length := by omega
        refine r_exit rfl ?_
        refine r_seq ?_
        refine r_region ?_
        refine l_x rfl (x_load rfl (ld_blks (S1b.blk 0 rfl) Tryz.isAgg25 Tryz.sizeOf25 rfl rfl)) ?_
        refine l_x rfl (x_mv rfl) ?_
        refine l_x rfl (x_mv rfl) ?_
        refine l_x rfl (x_mv rfl) ?_
        refine l_call [] [] [_, _, _, _] rfl rfl Tryz.call27 rfl (c_AssignMT b vm vf day found _ ([(⟨o, (n9 : Int)⟩ : Clm)] ++ oth9 (cs9.take cs9.length) o) _ hm (by have := oth_len9 (cs := cs9) (k := cs9.length) (o := o); rw [List.length_append, List.length_singleton]; omega) hsg (all_begin (begin_of hr9 hb9) (by have := oth_len (cs := cs9) (o := o); omega) (by omega)) ((all_met hap9).trans hP9) _ (hB.le S1b.le) (hF.le S1b.le) (vec_rd (S1b.at 1 rfl))) ?_
        rintro _ w208 ⟨s176208, rfl, hl176208⟩
        have S209 := S1b.step hl176208
        refine l_x rfl (x_mv rfl) ?_
        refine l_x rfl (x_extract rfl rfl) ?_
        refine l_x rfl (x_extract rfl rfl) ?_
        refine l_x rfl (x_extract rfl rfl) ?_
        refine l_x rfl (x_as rfl) ?_
        refine l_x rfl (x_as rfl) ?_
        refine l_x rfl (x_as rfl) ?_
        refine l_nil ?_
        refine r_seq ?_
        refine r_region ?_
        refine l_x rfl (x_mv rfl) ?_
        refine l_x rfl (x_mv rfl) ?_
        refine l_x rfl (x_add rfl rfl (by omega)) ?_
        refine l_index ECL rfl (vec_rd (S209.at 1 rfl)) rfl rfl Tryz.runUnderlying51 Tryz.sizeOf83 (by omega) rfl ?_
        intro b210 o211 hat212 row213
        refine l_x rfl (x_fieldAddr rfl Tryz.runUnderlying83 rfl Tryz.sizeOf3 (by decide)) ?_
        refine l_storevi (a' := ⟨o, (n9 : Int) + 1⟩) (f := 1) S209 1 rfl rfl hat212 rfl rfl Tryz.sizeOf3 rfl (by decide) rfl ?_
        intro w214 S215 hk216
        refine l_nil ?_
        refine r_seq ?_
        refine r_region ?_
        refine l_x rfl (x_load rfl (ld_blks (S215.blk 0 rfl) Tryz.isAgg25 Tryz.sizeOf25 rfl rfl)) ?_
        refine l_x rfl (x_mv rfl) ?_
        refine l_x rfl (x_mv rfl) ?_
        refine l_x rfl (x_mv rfl) ?_
        refine l_call [] [] [_, _, _, _] rfl rfl Tryz.call27 rfl (c_AssignMF b vm vf day found _ ([(⟨o, (n9 : Int) + 1⟩ : Clm)] ++ oth9 (cs9.take cs9.length) o) _ hm (by have := oth_len9 (cs := cs9) (k := cs9.length) (o := o); rw [List.length_append, List.length_singleton]; omega) hsg (all_begin (begin_of hr9 hb9) (by have := oth_len (cs := cs9) (o := o); omega) (by omega)) (more_met hap9 hq9) _ (hB.le S215.le) (hF.le S215.le) (vec_rd (S215.at 1 rfl))) ?_
        rintro _ w217 ⟨s190217, rfl, hl190217⟩
        have S218 := S215.step hl190217
        refine l_x rfl (x_mv rfl) ?_
        refine l_x rfl (x_extract rfl rfl) ?_
        refine l_x rfl (x_extract rfl rfl) ?_
        refine l_x rfl (x_extract rfl rfl) ?_
        refine l_x rfl (x_as rfl) ?_
        refine l_x rfl (x_as rfl) ?_
        refine l_x rfl (x_as rfl) ?_
        refine l_nil ?_
        refine r_seq ?_
        refine r_region ?_
        refine l_call [] [] [] rfl rfl Tryz.call20 rfl (c_marked _ (hG.le S218.le)) ?_
        rintro _ w219 ⟨rfl, hl221⟩
        have S220 := S218.step hl221
        refine l_x rfl (x_mv rfl) ?_
        refine l_x rfl (x_mv rfl) ?_
        refine l_x rfl (x_pick_t rfl rfl) ?_
        refine l_x rfl (x_mv rfl) ?_
        refine l_x rfl (x_mv rfl) ?_
        refine l_x rfl (x_eql rfl rfl) ?_
        refine l_x rfl (x_pick_t rfl rfl) ?_
        refine l_x rfl (x_mv rfl) ?_
        refine l_splitd (d := 202) rfl (fun hg202 => ?_) (fun hg202 => ?_)
        · skip
          refine l_x rfl (x_mv rfl) ?_
          refine l_x rfl (x_not rfl) ?_
          refine l_x rfl (x_pick_t rfl rfl) ?_
          refine l_x rfl (x_mv rfl) ?_
          refine l_x rfl (x_mv rfl) ?_
          refine l_x rfl (x_eql rfl rfl) ?_
          refine l_x rfl (x_mv rfl) ?_
          refine l_splitd (d := 209) rfl (fun hg209 => ?_) (fun hg209 => ?_)
          · skip
            refine l_pass rfl ?_
            refine l_pass rfl ?_
            refine l_x rfl (x_pick_t rfl rfl) ?_
            refine l_x rfl (x_pick_t rfl rfl) ?_
            refine l_x rfl (x_as rfl) ?_
            refine l_nil ?_
            refine r_ret (rs := [.tmp 12]) [_] Tryz.func15 rfl ⟨rfl, trivial⟩ ?_
            exact ⟨by first | rfl | exact congrArg Value.bool (decide_eq_true rfl), S220.le⟩
          exact absurd rfl hg209
        exact absurd rfl hg202
      refine l_pass rfl ?_
      refine l_pass rfl ?_
      refine l_pass rfl ?_
      refine l_x rfl (x_pick_f rfl rfl) ?_
      refine l_x rfl (x_pick_f rfl rfl) ?_
      refine l_nil ?_
      refine r_false rfl ?_
      refine r_skip ?_
      refine r_seq ?_
      refine r_seq ?_
      refine r_region ?_
      refine l_x rfl (x_mv rfl) ?_
      refine l_x rfl (x_neq rfl rfl) ?_
      refine l_nil ?_
      refine r_ifd rfl (fun hc145 => ?_) (fun hc145 => ?_)
      · exact absurd rfl hc145
      refine r_skip ?_
      refine r_seq ?_
      refine r_region ?_
      refine l_x rfl (x_mv rfl) ?_
      refine l_x rfl (x_mv rfl) ?_
      refine l_x rfl (x_buildS (out := [_, _]) (ss := [1, 1]) Tryz.zeroValue83 rfl Tryz.runUnderlying83 ⟨Tryz.sizeOf3, Tryz.sizeOf3, trivial⟩ (fill_cons rfl rfl rfl (Nat.le_of_ble_eq_true rfl) (fill_cons rfl rfl rfl (Nat.le_of_ble_eq_true rfl) fill_nil))) ?_
      refine l_buildSlice ECL [⟨o, (n9 : Int)⟩] S1 rfl Tryz.runUnderlying51 Tryz.sizeOf83 Tryz.zeroValue83 rfl ⟨rfl, rfl, trivial⟩ (Nat.le_of_ble_eq_true rfl) ?_
      intro v225 w222 S223 hl224
      refine l_x rfl (x_as rfl) ?_
      refine l_nil ?_
      refine r_seq ?_
      refine r_seq ?_
      refine r_region ?_
      refine l_x rfl (x_as rfl) ?_
      refine l_nil ?_
      refine r_block ?_
      refine r_loop (G := Nat × Value) (fun ⟨k, vl⟩ => cs9.length - k) (fun ⟨k, vl⟩ => [(1, Value.int .i64 day), (2, vs), (3, vq), (4, vo), (5, Value.int .i64 o), (6, .pointer (some ⟨b4, 0, none⟩)), (18, Value.int .i64 (n9 : Int)), (19, Value.int .i64 0), (22, vl), (23, Value.int .i64 k)]) (fun ⟨k, vl⟩ w' => (k ≤ cs9.length) ∧ Own nob w w' [blk b4 [vm, vf] 25, vec ECL vl ([(⟨o, (n9 : Int)⟩ : Clm)] ++ oth9 (cs9.take k) o)]) (0, v225) ⟨rfl, rfl, rfl, rfl, rfl, rfl, rfl, rfl, rfl, rfl, trivial⟩ ⟨Nat.zero_le _, (S223.pick [0, 1] (by decide) rfl)⟩ ?_
      rintro ⟨k, vl⟩ ρ w1b ⟨hk, S1b⟩ IHb
      refine r_seq ?_
      refine r_seq ?_
      refine r_region ?_
      refine l_x rfl (x_mv rfl) ?_
      refine l_x rfl (x_mv rfl) ?_
      refine l_x rfl (x_len (hC.le S1b.le) rfl Tryz.runUnderlying51) ?_
      refine l_x rfl (x_lss rfl rfl) ?_
      refine l_nil ?_
      refine r_ifd rfl (fun hc154 => ?_) (fun hc154 => ?_)
      · skip
        obtain ⟨c, hc⟩ : ∃ c, cs9[k]? = some c := ⟨_, List.getElem?_eq_getElem (by omega)⟩
        have hol9 := oth_len9 (cs := cs9) (k := k) (o := o)
        refine r_skip ?_
        refine r_seq ?_
        refine r_block ?_
        refine r_seq ?_
        refine r_region ?_
        refine l_x rfl (x_mv rfl) ?_
        refine l_x rfl (x_mv rfl) ?_
        refine l_index ECL rfl (hC.le S1b.le) rfl rfl Tryz.runUnderlying51 Tryz.sizeOf83 (by omega) (by first | assumption | exact List.getElem?_eq_getElem (by omega)) ?_
        intro b226 o227 hat228 row229
        refine l_x rfl (x_fieldAddr rfl Tryz.runUnderlying83 rfl Tryz.sizeOf3 (by decide)) ?_
        refine l_x rfl (x_load rfl (ld_cell Tryz.isAgg3 (row229 0 _ rfl))) ?_
        refine l_x rfl (x_mv rfl) ?_
        refine l_x rfl (x_neq rfl rfl) ?_
        refine l_nil ?_
        refine r_ifd rfl (fun hc163 => ?_) (fun hc163 => ?_)
        · skip
          refine r_region ?_
          refine l_x rfl (x_mv rfl) ?_
          refine l_x rfl (x_mv rfl) ?_
          refine l_x rfl (x_mv rfl) ?_
          refine l_index ECL rfl (hC.le S1b.le) rfl rfl Tryz.runUnderlying51 Tryz.sizeOf83 (by omega) hc ?_
          intro b230 o231 hat232 row233
          refine l_x rfl (x_load rfl (ld_row Tryz.isAgg83 Tryz.sizeOf83 rfl row233)) ?_
          refine l_buildSlice ECL [c] S1b rfl Tryz.runUnderlying51 Tryz.sizeOf83 Tryz.zeroValue83 rfl ⟨rfl, rfl, trivial⟩ (Nat.le_of_ble_eq_true rfl) ?_
          intro v237 w234 S235 hl236
          refine l_append ECL S235 1 rfl rfl rfl rfl (vec_rd (S235.at 2 rfl)) Tryz.underlying51 info83 rfl rfl rfl (by unfold maxLen; rw [List.length_append, List.length_singleton, List.length_singleton]; omega) (by rw [List.length_append, List.length_singleton, List.length_singleton]; show _ * 16 ≤ _; omega) ?_
          intro v241 w238 S239 hk240 hv242
          refine l_x rfl (x_as rfl) ?_
          refine l_nil ?_
          refine r_inBlock ?_
          refine r_region ?_
          refine l_x rfl (x_mv rfl) ?_
          refine l_x rfl (x_add rfl rfl (by omega)) ?_
          refine l_x rfl (x_as rfl) ?_
          refine l_nil ?_
          exact IHb (k + 1, v241) _ _ (by dsimp only; omega) ⟨rfl, rfl, rfl, rfl, rfl, rfl, rfl, rfl, rfl, rfl, trivial⟩ ⟨by omega, (by have h := S239.take 2; rw [List.append_assoc, ← oth_step hc hc163] at h; exact h)⟩
        refine r_skip ?_
        refine r_inBlock ?_
        refine r_region ?_
        refine l_x rfl (x_mv rfl) ?_
        refine l_x rfl (x_add rfl rfl (by omega)) ?_
        refine l_x rfl (x_as rfl) ?_
        refine l_nil ?_
        exact IHb (k + 1, vl) _ _ (by dsimp only; omega) ⟨rfl, rfl, rfl, rfl, rfl, rfl, rfl, rfl, rfl, rfl, trivial⟩ ⟨by omega, (by have h := S1b.take 2; rw [← oth_stay hc (Decidable.not_not.1 hc163)] at h; exact h)⟩
      obtain rfl : k = cs9.length := by omega
      refine r_exit rfl ?_
      refine r_seq ?_
      refine r_region ?_
      refine l_x rfl (x_load rfl (ld_blks (S1b.blk 0 rfl) Tryz.isAgg25 Tryz.sizeOf25 rfl rfl)) ?_
      refine l_x rfl (x_mv rfl) ?_
      refine l_x rfl (x_mv rfl) ?_
      refine l_x rfl (x_mv rfl) ?_
      refine l_call [] [] [_, _, _, _] rfl rfl Tryz.call27 rfl (c_AssignMT b vm vf day found _ ([(⟨o, (n9 : Int)⟩ : Clm)] ++ oth9 (cs9.take cs9.length) o) _ hm (by have := oth_len9 (cs := cs9) (k := cs9.length) (o := o); rw [List.length_append, List.length_singleton]; omega) hsg (all_begin (begin_of hr9 hb9) (by have := oth_len (cs := cs9) (o := o); omega) (by omega)) ((all_met hap9).trans hP9) _ (hB.le S1b.le) (hF.le S1b.le) (vec_rd (S1b.at 1 rfl))) ?_
      rintro _ w243 ⟨s176243, rfl, hl176243⟩
      have S244 := S1b.step hl176243
      refine l_x rfl (x_mv rfl) ?_
      refine l_x rfl (x_extract rfl rfl) ?_
      refine l_x rfl (x_extract rfl rfl) ?_
      refine l_x rfl (x_extract rfl rfl) ?_
      refine l_x rfl (x_as rfl) ?_
      refine l_x rfl (x_as rfl) ?_
      refine l_x rfl (x_as rfl) ?_
      refine l_nil ?_
      refine r_seq ?_
      refine r_region ?_
      refine l_x rfl (x_mv rfl) ?_
      refine l_x rfl (x_mv rfl) ?_
      refine l_x rfl (x_add rfl rfl (by omega)) ?_
      refine l_index ECL rfl (vec_rd (S244.at 1 rfl)) rfl rfl Tryz.runUnderlying51 Tryz.sizeOf83 (by omega) rfl ?_
      intro b245 o246 hat247 row248
      refine l_x rfl (x_fieldAddr rfl Tryz.runUnderlying83 rfl Tryz.sizeOf3 (by decide)) ?_
      refine l_storevi (a' := ⟨o, (n9 : Int) + 1⟩) (f := 1) S244 1 rfl rfl hat247 rfl rfl Tryz.sizeOf3 rfl (by decide) rfl ?_
      intro w249 S250 hk251
      refine l_nil ?_
      refine r_seq ?_
      refine r_region ?_
      refine l_x rfl (x_load rfl (ld_blks (S250.blk 0 rfl) Tryz.isAgg25 Tryz.sizeOf25 rfl rfl)) ?_
      refine l_x rfl (x_mv rfl) ?_
      refine l_x rfl (x_mv rfl) ?_
      refine l_x rfl (x_mv rfl) ?_
      refine l_call [] [] [_, _, _, _] rfl rfl Tryz.call27 rfl (c_AssignMF b vm vf day found _ ([(⟨o, (n9 : Int) + 1⟩ : Clm)] ++ oth9 (cs9.take cs9.length) o) _ hm (by have := oth_len9 (cs := cs9) (k := cs9.length) (o := o); rw [List.length_append, List.length_singleton]; omega) hsg (all_begin (begin_of hr9 hb9) (by have := oth_len (cs := cs9) (o := o); omega) (by omega)) (more_met hap9 hq9) _ (hB.le S250.le) (hF.le S250.le) (vec_rd (S250.at 1 rfl))) ?_
      rintro _ w252 ⟨s190252, rfl, hl190252⟩
      have S253 := S250.step hl190252
      refine l_x rfl (x_mv rfl) ?_
      refine l_x rfl (x_extract rfl rfl) ?_
      refine l_x rfl (x_extract rfl rfl) ?_
      refine l_x rfl (x_extract rfl rfl) ?_
      refine l_x rfl (x_as rfl) ?_
      refine l_x rfl (x_as rfl) ?_
      refine l_x rfl (x_as rfl) ?_
      refine l_nil ?_
      refine r_seq ?_
      refine r_region ?_
      refine l_call [] [] [] rfl rfl Tryz.call20 rfl (c_marked _ (hG.le S253.le)) ?_
      rintro _ w254 ⟨rfl, hl256⟩
      have S255 := S253.step hl256
      refine l_x rfl (x_mv rfl) ?_
      refine l_x rfl (x_mv rfl) ?_
      refine l_x rfl (x_pick_t rfl rfl) ?_
      refine l_x rfl (x_mv rfl) ?_
      refine l_x rfl (x_mv rfl) ?_
      refine l_x rfl (x_eql rfl rfl) ?_
      refine l_x rfl (x_pick_t rfl rfl) ?_
      refine l_x rfl (x_mv rfl) ?_
      refine l_splitd (d := 202) rfl (fun hg202 => ?_) (fun hg202 => ?_)
      · skip
        refine l_x rfl (x_mv rfl) ?_
        refine l_x rfl (x_not rfl) ?_
        refine l_x rfl (x_pick_t rfl rfl) ?_
        refine l_x rfl (x_mv rfl) ?_
        refine l_x rfl (x_mv rfl) ?_
        refine l_x rfl (x_eql rfl rfl) ?_
        refine l_x rfl (x_mv rfl) ?_
        refine l_splitd (d := 209) rfl (fun hg209 => ?_) (fun hg209 => ?_)
        · skip
          refine l_pass rfl ?_
          refine l_pass rfl ?_
          refine l_x rfl (x_pick_t rfl rfl) ?_
          refine l_x rfl (x_pick_t rfl rfl) ?_
          refine l_x rfl (x_as rfl) ?_
          refine l_nil ?_
          refine r_ret (rs := [.tmp 12]) [_] Tryz.func15 rfl ⟨rfl, trivial⟩ ?_
          exact ⟨by first | rfl | exact congrArg Value.bool (decide_eq_true rfl), S255.le⟩
        exact absurd rfl hg209
      exact absurd rfl hg202
    refine l_pass rfl ?_
    refine l_pass rfl ?_
    refine l_x rfl (x_pick_f rfl rfl) ?_
    refine l_x rfl (x_pick_f rfl rfl) ?_
    refine l_x rfl (x_mv rfl) ?_
    refine l_x rfl (x_mv rfl) ?_
    refine l_x rfl (x_mv rfl) ?_
    refine l_x rfl (x_mv rfl) ?_
    refine l_x rfl (x_add rfl rfl (by omega)) ?_
    refine l_x rfl (x_gtr rfl rfl) ?_
    refine l_x rfl (x_pick_f rfl rfl) ?_
    refine l_x rfl (x_mv rfl) ?_
    refine l_splitd (d := 136) rfl (fun hg136 => ?_) (fun hg136 => ?_)
    · omega
    refine l_x rfl (x_mv rfl) ?_
    refine l_x rfl (x_mv rfl) ?_
    refine l_split (d := 138) rfl (fun hg138 => ?_) (fun hg138 => ?_)
    · skip
      refine l_x rfl (x_mv rfl) ?_
      refine l_x rfl (x_mv rfl) ?_
      refine l_x rfl (x_lss rfl rfl) ?_
      refine l_x rfl (x_pick_t rfl rfl) ?_
      refine l_x rfl (x_pick_f rfl rfl) ?_
      refine l_nil ?_
      refine r_ifd rfl (fun hc143 => ?_) (fun hc143 => ?_)
      · exact (rg_most hb9 hp9 hg138 ho0 hq9 hc143).elim
      refine r_skip ?_
      refine r_seq ?_
      refine r_seq ?_
      refine r_region ?_
      refine l_x rfl (x_mv rfl) ?_
      refine l_x rfl (x_neq rfl rfl) ?_
      refine l_nil ?_
      refine r_ifd rfl (fun hc145 => ?_) (fun hc145 => ?_)
      · exact absurd rfl hc145
      refine r_skip ?_
      refine r_seq ?_
      refine r_region ?_
      refine l_x rfl (x_mv rfl) ?_
      refine l_x rfl (x_mv rfl) ?_
      refine l_x rfl (x_buildS (out := [_, _]) (ss := [1, 1]) Tryz.zeroValue83 rfl Tryz.runUnderlying83 ⟨Tryz.sizeOf3, Tryz.sizeOf3, trivial⟩ (fill_cons rfl rfl rfl (Nat.le_of_ble_eq_true rfl) (fill_cons rfl rfl rfl (Nat.le_of_ble_eq_true rfl) fill_nil))) ?_
      refine l_buildSlice ECL [⟨o, (n9 : Int)⟩] S1 rfl Tryz.runUnderlying51 Tryz.sizeOf83 Tryz.zeroValue83 rfl ⟨rfl, rfl, trivial⟩ (Nat.le_of_ble_eq_true rfl) ?_
      intro v260 w257 S258 hl259
      refine l_x rfl (x_as rfl) ?_
      refine l_nil ?_
      refine r_seq ?_
      refine r_seq ?_
      refine r_region ?_
      refine l_x rfl (x_as rfl) ?_
      refine l_nil ?_
      refine r_block ?_
      refine r_loop (G := Nat × Value) (fun ⟨k, vl⟩ => cs9.length - k) (fun ⟨k, vl⟩ => [(1, Value.int .i64 day), (2, vs), (3, vq), (4, vo), (5, Value.int .i64 o), (6, .pointer (some ⟨b4, 0, none⟩)), (18, Value.int .i64 (n9 : Int)), (19, Value.int .i64 0), (22, vl), (23, Value.int .i64 k)]) (fun ⟨k, vl⟩ w' => (k ≤ cs9.length) ∧ Own nob w w' [blk b4 [vm, vf] 25, vec ECL vl ([(⟨o, (n9 : Int)⟩ : Clm)] ++ oth9 (cs9.take k) o)]) (0, v260) ⟨rfl, rfl, rfl, rfl, rfl, rfl, rfl, rfl, rfl, rfl, trivial⟩ ⟨Nat.zero_le _, (S258.pick [0, 1] (by decide) rfl)⟩ ?_
      rintro ⟨k, vl⟩ ρ w1b ⟨hk, S1b⟩ IHb
      refine r_seq ?_
      refine r_seq ?_
      refine r_region ?_
      refine l_x rfl (x_mv rfl) ?_
      refine l_x rfl (x_mv rfl) ?_
      refine l_x rfl (x_len (hC.le S1b.le) rfl Tryz.runUnderlying51) ?_
      refine l_x rfl (x_lss rfl rfl) ?_
      refine l_nil ?_
      refine r_ifd rfl (fun hc154 => ?_) (fun hc154 => ?_)
      · skip
        obtain ⟨c, hc⟩ : ∃ c, cs9[k]? = some c := ⟨_, List.getElem?_eq_getElem (by omega)⟩
        have hol9 := oth_len9 (cs := cs9) (k := k) (o := o)
        refine r_skip ?_
        refine r_seq ?_
        refine r_block ?_
        refine r_seq ?_
        refine r_region ?_
        refine l_x rfl (x_mv rfl) ?_
        refine l_x rfl (x_mv rfl) ?_
        refine l_index ECL rfl (hC.le S1b.le) rfl rfl Tryz.runUnderlying51 Tryz.sizeOf83 (by omega) (by first | assumption | exact List.getElem?_eq_getElem (by omega)) ?_
        intro b261 o262 hat263 row264
        refine l_x rfl (x_fieldAddr rfl Tryz.runUnderlying83 rfl Tryz.sizeOf3 (by decide)) ?_
        refine l_x rfl (x_load rfl (ld_cell Tryz.isAgg3 (row264 0 _ rfl))) ?_
        refine l_x rfl (x_mv rfl) ?_
        refine l_x rfl (x_neq rfl rfl) ?_
        refine l_nil ?_
        refine r_ifd rfl (fun hc163 => ?_) (fun hc163 => ?_)
        · skip
          refine r_region ?_
          refine l_x rfl (x_mv rfl) ?_
          refine l_x rfl (x_mv rfl) ?_
          refine l_x rfl (x_mv rfl) ?_
          refine l_index ECL rfl (hC.le S1b.le) rfl rfl Tryz.runUnderlying51 Tryz.sizeOf83 (by omega) hc ?_
          intro b265 o266 hat267 row268
          refine l_x rfl (x_load rfl (ld_row Tryz.isAgg83 Tryz.sizeOf83 rfl row268)) ?_
          refine l_buildSlice ECL [c] S1b rfl Tryz.runUnderlying51 Tryz.sizeOf83 Tryz.zeroValue83 rfl ⟨rfl, rfl, trivial⟩ (Nat.le_of_ble_eq_true rfl) ?_
          intro v272 w269 S270 hl271
          refine l_append ECL S270 1 rfl rfl rfl rfl (vec_rd (S270.at 2 rfl)) Tryz.underlying51 info83 rfl rfl rfl (by unfold maxLen; rw [List.length_append, List.length_singleton, List.length_singleton]; omega) (by rw [List.length_append, List.length_singleton, List.length_singleton]; show _ * 16 ≤ _; omega) ?_
          intro v276 w273 S274 hk275 hv277
          refine l_x rfl (x_as rfl) ?_
          refine l_nil ?_
          refine r_inBlock ?_
          refine r_region ?_
          refine l_x rfl (x_mv rfl) ?_
          refine l_x rfl (x_add rfl rfl (by omega)) ?_
          refine l_x rfl (x_as rfl) ?_
          refine l_nil ?_
          exact IHb (k + 1, v276) _ _ (by dsimp only; omega) ⟨rfl, rfl, rfl, rfl, rfl, rfl, rfl, rfl, rfl, rfl, trivial⟩ ⟨by omega, (by have h := S274.take 2; rw [List.append_assoc, ← oth_step hc hc163] at h; exact h)⟩
        refine r_skip ?_
        refine r_inBlock ?_
        refine r_region ?_
        refine l_x rfl (x_mv rfl) ?_
        refine l_x rfl (x_add rfl rfl (by omega)) ?_
        refine l_x rfl (x_as rfl) ?_
        refine l_nil ?_
        exact IHb (k + 1, vl) _ _ (by dsimp only; omega) ⟨rfl, rfl, rfl, rfl, rfl, rfl, rfl, rfl, rfl, rfl, trivial⟩ ⟨by omega, (by have h := S1b.take 2; rw [← oth_stay hc (Decidable.not_not.1 hc163)] at h; exact h)⟩
      obtain rfl : k = cs9.length := by omega
      refine r_exit rfl ?_
      refine r_seq ?_
      refine r_region ?_
      refine l_x rfl (x_load rfl (ld_blks (S1b.blk 0 rfl) Tryz.isAgg25 Tryz.sizeOf25 rfl rfl)) ?_
      refine l_x rfl (x_mv rfl) ?_
      refine l_x rfl (x_mv rfl) ?_
      refine l_x rfl (x_mv rfl) ?_
      refine l_call [] [] [_, _, _, _] rfl rfl Tryz.call27 rfl (c_AssignMT b vm vf day found _ ([(⟨o, (n9 : Int)⟩ : Clm)] ++ oth9 (cs9.take cs9.length) o) _ hm (by have := oth_len9 (cs := cs9) (k := cs9.length) (o := o); rw [List.length_append, List.length_singleton]; omega) hsg (all_begin (begin_of hr9 hb9) (by have := oth_len (cs := cs9) (o := o); omega) (by omega)) ((all_met hap9).trans hP9) _ (hB.le S1b.le) (hF.le S1b.le) (vec_rd (S1b.at 1 rfl))) ?_
      rintro _ w278 ⟨s176278, rfl, hl176278⟩
      have S279 := S1b.step hl176278
      refine l_x rfl (x_mv rfl) ?_
      refine l_x rfl (x_extract rfl rfl) ?_
      refine l_x rfl (x_extract rfl rfl) ?_
      refine l_x rfl (x_extract rfl rfl) ?_
      refine l_x rfl (x_as rfl) ?_
      refine l_x rfl (x_as rfl) ?_
      refine l_x rfl (x_as rfl) ?_
      refine l_nil ?_
      refine r_seq ?_
      refine r_region ?_
      refine l_x rfl (x_mv rfl) ?_
      refine l_x rfl (x_mv rfl) ?_
      refine l_x rfl (x_add rfl rfl (by omega)) ?_
      refine l_index ECL rfl (vec_rd (S279.at 1 rfl)) rfl rfl Tryz.runUnderlying51 Tryz.sizeOf83 (by omega) rfl ?_
      intro b280 o281 hat282 row283
      refine l_x rfl (x_fieldAddr rfl Tryz.runUnderlying83 rfl Tryz.sizeOf3 (by decide)) ?_
      refine l_storevi (a' := ⟨o, (n9 : Int) + 1⟩) (f := 1) S279 1 rfl rfl hat282 rfl rfl Tryz.sizeOf3 rfl (by decide) rfl ?_
      intro w284 S285 hk286
      refine l_nil ?_
      refine r_seq ?_
      refine r_region ?_
      refine l_x rfl (x_load rfl (ld_blks (S285.blk 0 rfl) Tryz.isAgg25 Tryz.sizeOf25 rfl rfl)) ?_
      refine l_x rfl (x_mv rfl) ?_
      refine l_x rfl (x_mv rfl) ?_
      refine l_x rfl (x_mv rfl) ?_
      refine l_call [] [] [_, _, _, _] rfl rfl Tryz.call27 rfl (c_AssignMF b vm vf day found _ ([(⟨o, (n9 : Int) + 1⟩ : Clm)] ++ oth9 (cs9.take cs9.length) o) _ hm (by have := oth_len9 (cs := cs9) (k := cs9.length) (o := o); rw [List.length_append, List.length_singleton]; omega) hsg (all_begin (begin_of hr9 hb9) (by have := oth_len (cs := cs9) (o := o); omega) (by omega)) (more_met hap9 hq9) _ (hB.le S285.le) (hF.le S285.le) (vec_rd (S285.at 1 rfl))) ?_
      rintro _ w287 ⟨s190287, rfl, hl190287⟩
      have S288 := S285.step hl190287
      refine l_x rfl (x_mv rfl) ?_
      refine l_x rfl (x_extract rfl rfl) ?_
      refine l_x rfl (x_extract rfl rfl) ?_
      refine l_x rfl (x_extract rfl rfl) ?_
      refine l_x rfl (x_as rfl) ?_
      refine l_x rfl (x_as rfl) ?_
      refine l_x rfl (x_as rfl) ?_
      refine l_nil ?_
      refine r_seq ?_
      refine r_region ?_
      refine l_call [] [] [] rfl rfl Tryz.call20 rfl (c_marked _ (hG.le S288.le)) ?_
      rintro _ w289 ⟨rfl, hl291⟩
      have S290 := S288.step hl291
      refine l_x rfl (x_mv rfl) ?_
      refine l_x rfl (x_mv rfl) ?_
      refine l_x rfl (x_pick_t rfl rfl) ?_
      refine l_x rfl (x_mv rfl) ?_
      refine l_x rfl (x_mv rfl) ?_
      refine l_x rfl (x_eql rfl rfl) ?_
      refine l_x rfl (x_pick_t rfl rfl) ?_
      refine l_x rfl (x_mv rfl) ?_
      refine l_splitd (d := 202) rfl (fun hg202 => ?_) (fun hg202 => ?_)
      · skip
        refine l_x rfl (x_mv rfl) ?_
        refine l_x rfl (x_not rfl) ?_
        refine l_x rfl (x_pick_t rfl rfl) ?_
        refine l_x rfl (x_mv rfl) ?_
        refine l_x rfl (x_mv rfl) ?_
        refine l_x rfl (x_eql rfl rfl) ?_
        refine l_x rfl (x_mv rfl) ?_
        refine l_splitd (d := 209) rfl (fun hg209 => ?_) (fun hg209 => ?_)
        · skip
          refine l_pass rfl ?_
          refine l_pass rfl ?_
          refine l_x rfl (x_pick_t rfl rfl) ?_
          refine l_x rfl (x_pick_t rfl rfl) ?_
          refine l_x rfl (x_as rfl) ?_
          refine l_nil ?_
          refine r_ret (rs := [.tmp 12]) [_] Tryz.func15 rfl ⟨rfl, trivial⟩ ?_
          exact ⟨by first | rfl | exact congrArg Value.bool (decide_eq_true rfl), S290.le⟩
        exact absurd rfl hg209
      exact absurd rfl hg202
    refine l_pass rfl ?_
    refine l_pass rfl ?_
    refine l_pass rfl ?_
    refine l_x rfl (x_pick_f rfl rfl) ?_
    refine l_x rfl (x_pick_f rfl rfl) ?_
    refine l_nil ?_
    refine r_false rfl ?_
    refine r_skip ?_
    refine r_seq ?_
    refine r_seq ?_
    refine r_region ?_
    refine l_x rfl (x_mv rfl) ?_
    refine l_x rfl (x_neq rfl rfl) ?_
    refine l_nil ?_
    refine r_ifd rfl (fun hc145 => ?_) (fun hc145 => ?_)
    · exact absurd rfl hc145
    refine r_skip ?_
    refine r_seq ?_
    refine r_region ?_
    refine l_x rfl (x_mv rfl) ?_
    refine l_x rfl (x_mv rfl) ?_
    refine l_x rfl (x_buildS (out := [_, _]) (ss := [1, 1]) Tryz.zeroValue83 rfl Tryz.runUnderlying83 ⟨Tryz.sizeOf3, Tryz.sizeOf3, trivial⟩ (fill_cons rfl rfl rfl (Nat.le_of_ble_eq_true rfl) (fill_cons rfl rfl rfl (Nat.le_of_ble_eq_true rfl) fill_nil))) ?_
    refine l_buildSlice ECL [⟨o, (n9 : Int)⟩] S1 rfl Tryz.runUnderlying51 Tryz.sizeOf83 Tryz.zeroValue83 rfl ⟨rfl, rfl, trivial⟩ (Nat.le_of_ble_eq_true rfl) ?_
    intro v295 w292 S293 hl294
    refine l_x rfl (x_as rfl) ?_
    refine l_nil ?_
    refine r_seq ?_
    refine r_seq ?_
    refine r_region ?_
    refine l_x rfl (x_as rfl) ?_
    refine l_nil ?_
    refine r_block ?_
    refine r_loop (G := Nat × Value) (fun ⟨k, vl⟩ => cs9.length - k) (fun ⟨k, vl⟩ => [(1, Value.int .i64 day), (2, vs), (3, vq), (4, vo), (5, Value.int .i64 o), (6, .pointer (some ⟨b4, 0, none⟩)), (18, Value.int .i64 (n9 : Int)), (19, Value.int .i64 0), (22, vl), (23, Value.int .i64 k)]) (fun ⟨k, vl⟩ w' => (k ≤ cs9.length) ∧ Own nob w w' [blk b4 [vm, vf] 25, vec ECL vl ([(⟨o, (n9 : Int)⟩ : Clm)] ++ oth9 (cs9.take k) o)]) (0, v295) ⟨rfl, rfl, rfl, rfl, rfl, rfl, rfl, rfl, rfl, rfl, trivial⟩ ⟨Nat.zero_le _, (S293.pick [0, 1] (by decide) rfl)⟩ ?_
    rintro ⟨k, vl⟩ ρ w1b ⟨hk, S1b⟩ IHb
    refine r_seq ?_
    refine r_seq ?_
    refine r_region ?_
    refine l_x rfl (x_mv rfl) ?_
    refine l_x rfl (x_mv rfl) ?_
    refine l_x rfl (x_len (hC.le S1b.le) rfl Tryz.runUnderlying51) ?_
    refine l_x rfl (x_lss rfl rfl) ?_
    refine l_nil ?_
    refine r_ifd rfl (fun hc154 => ?_) (fun hc154 => ?_)
    · skip
      obtain ⟨c, hc⟩ : ∃ c, cs9[k]? = some c := ⟨_, List.getElem?_eq_getElem (by omega)⟩
      have hol9 := oth_len9 (cs := cs9) (k := k) (o := o)
      refine r_skip ?_
      refine r_seq ?_
      refine r_block ?_
      refine r_seq ?_
      refine r_region ?_
      refine l_x rfl (x_mv rfl) ?_
      refine l_x rfl (x_mv rfl) ?_
      refine l_index ECL rfl (hC.le S1b.le) rfl rfl Tryz.runUnderlying51 Tryz.sizeOf83 (by omega) (by first | assumption | exact List.getElem?_eq_getElem (by omega)) ?_
      intro b296 o297 hat298 row299
      refine l_x rfl (x_fieldAddr rfl Tryz.runUnderlying83 rfl Tryz.sizeOf3 (by decide)) ?_
      refine l_x rfl (x_load rfl (ld_cell Tryz.isAgg3 (row299 0 _ rfl))) ?_
      refine l_x rfl (x_mv rfl) ?_
      refine l_x rfl (x_neq rfl rfl) ?_
      refine l_nil ?_
      refine r_ifd rfl (fun hc163 => ?_) (fun hc163 => ?_)
      · skip
        refine r_region ?_
        refine l_x rfl (x_mv rfl) ?_
        refine l_x rfl (x_mv rfl) ?_
        refine l_x rfl (x_mv rfl) ?_
        refine l_index ECL rfl (hC.le S1b.le) rfl rfl Tryz.runUnderlying51 Tryz.sizeOf83 (by omega) hc ?_
        intro b300 o301 hat302 row303
        refine l_x rfl (x_load rfl (ld_row Tryz.isAgg83 Tryz.sizeOf83 rfl row303)) ?_
        refine l_buildSlice ECL [c] S1b rfl Tryz.runUnderlying51 Tryz.sizeOf83 Tryz.zeroValue83 rfl ⟨rfl, rfl, trivial⟩ (Nat.le_of_ble_eq_true rfl) ?_
        intro v307 w304 S305 hl306
        refine l_append ECL S305 1 rfl rfl rfl rfl (vec_rd (S305.at 2 rfl)) Tryz.underlying51 info83 rfl rfl rfl (by unfold maxLen; rw [List.length_append, List.length_singleton, List.length_singleton]; omega) (by rw [List.length_append, List.length_singleton, List.length_singleton]; show _ * 16 ≤ _; omega) ?_
        intro v311 w308 S309 hk310 hv312
        refine l_x rfl (x_as rfl) ?_
        refine l_nil ?_
        refine r_inBlock ?_
        refine r_region ?_
        refine l_x rfl (x_mv rfl) ?_
        refine l_x rfl (x_add rfl rfl (by omega)) ?_
        refine l_x rfl (x_as rfl) ?_
        refine l_nil ?_
        exact IHb (k + 1, v311) _ _ (by dsimp only; omega) ⟨rfl, rfl, rfl, rfl, rfl, rfl, rfl, rfl, rfl, rfl, trivial⟩ ⟨by omega, (by have h := S309.take 2; rw [List.append_assoc, ← oth_step hc hc163] at h; exact h)⟩
      refine r_skip ?_
      refine r_inBlock ?_
      refine r_region ?_
      refine l_x rfl (x_mv rfl) ?_
      refine l_x rfl (x_add rfl rfl (by omega)) ?_
      refine l_x rfl (x_as rfl) ?_
      refine l_nil ?_
      exact IHb (k + 1, vl) _ _ (by dsimp only; omega) ⟨rfl, rfl, rfl, rfl, rfl, rfl, rfl, rfl, rfl, rfl, trivial⟩ ⟨by omega, (by have h := S1b.take 2; rw [← oth_stay hc (Decidable.not_not.1 hc163)] at h; exact h)⟩
    obtain rfl : k = cs9.length := by omega
    refine r_exit rfl ?_
    refine r_seq ?_
    refine r_region ?_
    refine l_x rfl (x_load rfl (ld_blks (S1b.blk 0 rfl) Tryz.isAgg25 Tryz.sizeOf25 rfl rfl)) ?_
    refine l_x rfl (x_mv rfl) ?_
    refine l_x rfl (x_mv rfl) ?_
    refine l_x rfl (x_mv rfl) ?_
    refine l_call [] [] [_, _, _, _] rfl rfl Tryz.call27 rfl (c_AssignMT b vm vf day found _ ([(⟨o, (n9 : Int)⟩ : Clm)] ++ oth9 (cs9.take cs9.length) o) _ hm (by have := oth_len9 (cs := cs9) (k := cs9.length) (o := o); rw [List.length_append, List.length_singleton]; omega) hsg (all_begin (begin_of hr9 hb9) (by have := oth_len (cs := cs9) (o := o); omega) (by omega)) ((all_met hap9).trans hP9) _ (hB.le S1b.le) (hF.le S1b.le) (vec_rd (S1b.at 1 rfl))) ?_
    rintro _ w313 ⟨s176313, rfl, hl176313⟩
    have S314 := S1b.step hl176313
    refine l_x rfl (x_mv rfl) ?_
    refine l_x rfl (x_extract rfl rfl) ?_
    refine l_x rfl (x_extract rfl rfl) ?_
    refine l_x rfl (x_extract rfl rfl) ?_
    refine l_x rfl (x_as rfl) ?_
    refine l_x rfl (x_as rfl) ?_
    refine l_x rfl (x_as rfl) ?_
    refine l_nil ?_
    refine r_seq ?_
    refine r_region ?_
    refine l_x rfl (x_mv rfl) ?_
    refine l_x rfl (x_mv rfl) ?_
    refine l_x rfl (x_add rfl rfl (by omega)) ?_
    refine l_index ECL rfl (vec_rd (S314.at 1 rfl)) rfl rfl Tryz.runUnderlying51 Tryz.sizeOf83 (by omega) rfl ?_
    intro b315 o316 hat317 row318
    refine l_x rfl (x_fieldAddr rfl Tryz.runUnderlying83 rfl Tryz.sizeOf3 (by decide)) ?_
    refine l_storevi (a' := ⟨o, (n9 : Int) + 1⟩) (f := 1) S314 1 rfl rfl hat317 rfl rfl Tryz.sizeOf3 rfl (by decide) rfl ?_
    intro w319 S320 hk321
    refine l_nil ?_
    refine r_seq ?_
    refine r_region ?_
    refine l_x rfl (x_load rfl (ld_blks (S320.blk 0 rfl) Tryz.isAgg25 Tryz.sizeOf25 rfl rfl)) ?_
    refine l_x rfl (x_mv rfl) ?_
    refine l_x rfl (x_mv rfl) ?_
    refine l_x rfl (x_mv rfl) ?_
    refine l_call [] [] [_, _, _, _] rfl rfl Tryz.call27 rfl (c_AssignMF b vm vf day found _ ([(⟨o, (n9 : Int) + 1⟩ : Clm)] ++ oth9 (cs9.take cs9.length) o) _ hm (by have := oth_len9 (cs := cs9) (k := cs9.length) (o := o); rw [List.length_append, List.length_singleton]; omega) hsg (all_begin (begin_of hr9 hb9) (by have := oth_len (cs := cs9) (o := o); omega) (by omega)) (more_met hap9 hq9) _ (hB.le S320.le) (hF.le S320.le) (vec_rd (S320.at 1 rfl))) ?_
    rintro _ w322 ⟨s190322, rfl, hl190322⟩
    have S323 := S320.step hl190322
    refine l_x rfl (x_mv rfl) ?_
    refine l_x rfl (x_extract rfl rfl) ?_
    refine l_x rfl (x_extract rfl rfl) ?_
    refine l_x rfl (x_extract rfl rfl) ?_
    refine l_x rfl (x_as rfl) ?_
    refine l_x rfl (x_as rfl) ?_
    refine l_x rfl (x_as rfl) ?_
    refine l_nil ?_
    refine r_seq ?_
    refine r_region ?_
    refine l_call [] [] [] rfl rfl Tryz.call20 rfl (c_marked _ (hG.le S323.le)) ?_
    rintro _ w324 ⟨rfl, hl326⟩
    have S325 := S323.step hl326
    refine l_x rfl (x_mv rfl) ?_
    refine l_x rfl (x_mv rfl) ?_
    refine l_x rfl (x_pick_t rfl rfl) ?_
    refine l_x rfl (x_mv rfl) ?_
    refine l_x rfl (x_mv rfl) ?_
    refine l_x rfl (x_eql rfl rfl) ?_
    refine l_x rfl (x_pick_t rfl rfl) ?_
    refine l_x rfl (x_mv rfl) ?_
    refine l_splitd (d := 202) rfl (fun hg202 => ?_) (fun hg202 => ?_)
    · skip
      refine l_x rfl (x_mv rfl) ?_
      refine l_x rfl (x_not rfl) ?_
      refine l_x rfl (x_pick_t rfl rfl) ?_
      refine l_x rfl (x_mv rfl) ?_
      refine l_x rfl (x_mv rfl) ?_
      refine l_x rfl (x_eql rfl rfl) ?_
      refine l_x rfl (x_mv rfl) ?_
      refine l_splitd (d := 209) rfl (fun hg209 => ?_) (fun hg209 => ?_)
      · skip
        refine l_pass rfl ?_
        refine l_pass rfl ?_
        refine l_x rfl (x_pick_t rfl rfl) ?_
        refine l_x rfl (x_pick_t rfl rfl) ?_
        refine l_x rfl (x_as rfl) ?_
        refine l_nil ?_
        refine r_ret (rs := [.tmp 12]) [_] Tryz.func15 rfl ⟨rfl, trivial⟩ ?_
        exact ⟨by first | rfl | exact congrArg Value.bool (decide_eq_true rfl), S325.le⟩
      exact absurd rfl hg209
    exact absurd rfl hg202
  have S327 := S40.step hl7441
  have hap9 := begin_apart hb9
  have hfl9 := fit_len (b := b) (day := day) (found := found) (o := o)
  have hsp9 := sure_perhaps (b := b) (day := day) (found := found) (o := o)
  have hw9 := range_own hr9
  have ho0 := own_ne hw9
  refine l_x rfl (x_mv rfl) ?_
  refine l_x rfl (x_extract rfl rfl) ?_
  refine l_x rfl (x_extract rfl rfl) ?_
  refine l_x rfl (x_as rfl) ?_
  refine l_x rfl (x_as rfl) ?_
  refine l_nil ?_
  refine r_seq ?_
  refine r_seq ?_
  refine r_region ?_
  refine l_x rfl (x_mv rfl) ?_
  refine l_x rfl (x_neq rfl rfl) ?_
  refine l_x rfl (x_mv rfl) ?_
  refine l_splitd (d := 79) rfl (fun hg79 => ?_) (fun hg79 => ?_)
  · exact absurd rfl hg79
  refine l_x rfl (x_mv rfl) ?_
  refine l_x rfl (x_neq rfl rfl) ?_
  refine l_x rfl (x_pick_f rfl rfl) ?_
  refine l_nil ?_
  refine r_ifd rfl (fun hc82 => ?_) (fun hc82 => ?_)
  · exact absurd rfl hc82
  refine r_skip ?_
  refine r_seq ?_
  refine r_region ?_
  refine l_x rfl (x_as rfl) ?_
  refine l_nil ?_
  refine r_seq ?_
  refine r_seq ?_
  refine r_region ?_
  refine l_x rfl (x_as rfl) ?_
  refine l_nil ?_
  refine r_block ?_
  refine r_loop (G := Nat) (fun i => os.length - i) (fun i => [(1, Value.int .i64 day), (2, vs), (3, vq), (4, vo), (5, Value.int .i64 o), (6, .pointer (some ⟨b4, 0, none⟩)), (13, Value.int .i64 (sureN b day found o)), (14, Value.int .i64 (perhapsN b day found o)), (16, .bool (meetsM os (mks b day found cz9) cz9)), (18, Value.int .i64 0), (19, Value.int .i64 30), (20, Value.int .i64 ((cntO (os.take i) o) : Int)), (21, Value.int .i64 i)]) (fun i w' => (i ≤ os.length) ∧ (i = 0 ∨ meetsM os (mks b day found cz9) cz9 = true) ∧ Own nob w w' [blk b4 [vm, vf] 25]) 0 ⟨rfl, rfl, rfl, rfl, rfl, rfl, rfl, rfl, rfl, rfl, rfl, rfl, rfl, trivial⟩ ⟨Nat.zero_le _, .inl rfl, S327⟩ ?_
  rintro i ρ w1 ⟨hi, hI, S1⟩ IH
  refine r_seq ?_
  refine r_seq ?_
  refine r_region ?_
  refine l_x rfl (x_mv rfl) ?_
  refine l_x rfl (x_mv rfl) ?_
  refine l_x rfl (x_len (hO.le S1.le) rfl Tryz.runUnderlying52) ?_
  refine l_x rfl (x_lss rfl rfl) ?_
  refine l_x rfl (x_mv rfl) ?_
  refine l_splitd (d := 96) rfl (fun hg96 => ?_) (fun hg96 => ?_)
  · skip
    refine l_x rfl (x_mv rfl) ?_
    refine l_x rfl (x_pick_t rfl rfl) ?_
    refine l_nil ?_
    refine r_if rfl (fun hc98 => ?_) (fun hc98 => ?_)
    · skip
      have hok : meetsM os (mks b day found cz9) cz9 = true := by simpa using hc98
      obtain ⟨x, hx⟩ : ∃ x, os[i]? = some x := ⟨_, List.getElem?_eq_getElem (by omega)⟩
      have hct := cnt_len9 (os := os) (o := o) (i := i)
      refine r_skip ?_
      refine r_seq ?_
      refine r_block ?_
      refine r_seq ?_
      refine r_region ?_
      refine l_x rfl (x_mv rfl) ?_
      refine l_x rfl (x_mv rfl) ?_
      refine l_index EI rfl (hO.le S1.le) rfl rfl Tryz.runUnderlying52 Tryz.sizeOf3 (by omega) hx ?_
      intro b328 o329 hat330 row331
      refine l_x rfl (x_load rfl (ld_cell Tryz.isAgg3 (row331 0 _ rfl))) ?_
      refine l_x rfl (x_mv rfl) ?_
      refine l_x rfl (x_eql rfl rfl) ?_
      refine l_nil ?_
      refine r_ifd rfl (fun hc106 => ?_) (fun hc106 => ?_)
      · skip
        have hc106 : x = o := hc106
        subst hc106
        refine r_region ?_
        refine l_x rfl (x_mv rfl) ?_
        refine l_x rfl (x_add rfl rfl (by omega)) ?_
        refine l_x rfl (x_as rfl) ?_
        refine l_nil ?_
        refine r_inBlock ?_
        refine r_region ?_
        refine l_x rfl (x_mv rfl) ?_
        refine l_x rfl (x_add rfl rfl (by omega)) ?_
        refine l_x rfl (x_as rfl) ?_
        refine l_nil ?_
        exact IH (i + 1) _ _ (by omega) ⟨rfl, rfl, rfl, rfl, rfl, rfl, rfl, rfl, rfl, rfl, rfl, (congrArg (Value.int .i64) (by rw [cnt_step hx]; rfl)), rfl, trivial⟩ ⟨by omega, .inr hok, (S1.take 1)⟩
      refine r_skip ?_
      refine r_inBlock ?_
      refine r_region ?_
      refine l_x rfl (x_mv rfl) ?_
      refine l_x rfl (x_add rfl rfl (by omega)) ?_
      refine l_x rfl (x_as rfl) ?_
      refine l_nil ?_
      exact IH (i + 1) _ _ (by omega) ⟨rfl, rfl, rfl, rfl, rfl, rfl, rfl, rfl, rfl, rfl, rfl, (congrArg (Value.int .i64) (by rw [cnt_stay hx hc106])), rfl, trivial⟩ ⟨by omega, .inr hok, (S1.take 1)⟩
    refine r_exit rfl ?_
    refine r_seq ?_
    refine r_seq ?_
    refine r_region ?_
    refine l_x rfl (x_mv rfl) ?_
    refine l_x rfl (x_mv rfl) ?_
    refine l_x rfl (x_mv rfl) ?_
    refine l_x rfl (x_add rfl rfl (by omega)) ?_
    refine l_x rfl (x_gtr rfl rfl) ?_
    refine l_x rfl (x_mv rfl) ?_
    refine l_splitd (d := 114) rfl (fun hg114 => ?_) (fun hg114 => ?_)
    · have h9 := rg_cnt hb9 hp9 ho0 hI; omega
    refine l_x rfl (x_mv rfl) ?_
    refine l_x rfl (x_neq rfl rfl) ?_
    refine l_x rfl (x_mv rfl) ?_
    refine l_splitd (d := 117) rfl (fun hg117 => ?_) (fun hg117 => ?_)
    · skip
      refine l_x rfl (x_mv rfl) ?_
      refine l_x rfl (x_neq rfl rfl) ?_
      refine l_x rfl (x_pick_t rfl rfl) ?_
      refine l_x rfl (x_pick_f rfl rfl) ?_
      refine l_x rfl (x_mv rfl) ?_
      refine l_splitd (d := 122) rfl (fun hg122 => ?_) (fun hg122 => ?_)
      · exact absurd rfl hg122
      refine l_x rfl (x_mv rfl) ?_
      refine l_x rfl (x_mv rfl) ?_
      refine l_split (d := 124) rfl (fun hg124 => ?_) (fun hg124 => ?_)
      · skip
        refine l_x rfl (x_mv rfl) ?_
        refine l_x rfl (x_neq rfl rfl) ?_
        refine l_x rfl (x_pick_t rfl rfl) ?_
        refine l_x rfl (x_pick_f rfl rfl) ?_
        refine l_x rfl (x_mv rfl) ?_
        refine l_splitd (d := 129) rfl (fun hg129 => ?_) (fun hg129 => ?_)
        · exact (rg_none hb9 hp9 hg124 ho0 hq9).elim
        refine l_x rfl (x_mv rfl) ?_
        refine l_x rfl (x_mv rfl) ?_
        refine l_x rfl (x_mv rfl) ?_
        refine l_x rfl (x_add rfl rfl (by omega)) ?_
        refine l_x rfl (x_gtr rfl rfl) ?_
        refine l_x rfl (x_pick_f rfl rfl) ?_
        refine l_x rfl (x_mv rfl) ?_
        refine l_splitd (d := 136) rfl (fun hg136 => ?_) (fun hg136 => ?_)
        · omega
        refine l_x rfl (x_mv rfl) ?_
        refine l_x rfl (x_mv rfl) ?_
        refine l_split (d := 138) rfl (fun hg138 => ?_) (fun hg138 => ?_)
        · skip
          refine l_x rfl (x_mv rfl) ?_
          refine l_x rfl (x_mv rfl) ?_
          refine l_x rfl (x_lss rfl rfl) ?_
          refine l_x rfl (x_pick_t rfl rfl) ?_
          refine l_x rfl (x_pick_f rfl rfl) ?_
          refine l_nil ?_
          refine r_ifd rfl (fun hc143 => ?_) (fun hc143 => ?_)
          · exact (rg_none hb9 hp9 hg138 ho0 hq9).elim
          refine r_skip ?_
          refine r_seq ?_
          refine r_seq ?_
          refine r_region ?_
          refine l_x rfl (x_mv rfl) ?_
          refine l_x rfl (x_neq rfl rfl) ?_
          refine l_nil ?_
          refine r_ifd rfl (fun hc145 => ?_) (fun hc145 => ?_)
          · skip
            refine r_seq ?_
            refine r_region ?_
            refine l_call [] [] [] rfl rfl Tryz.call20 rfl (c_marked _ (hG.le S1.le)) ?_
            rintro _ w332 ⟨rfl, hl334⟩
            have S333 := S1.step hl334
            refine l_x rfl (x_as rfl) ?_
            refine l_nil ?_
            refine r_ret (rs := [.tmp 12]) [_] Tryz.func15 rfl ⟨rfl, trivial⟩ ?_
            exact ⟨by first | rfl | exact congrArg Value.bool (decide_eq_true rfl), S333.le⟩
          exact absurd (by decide) hc145
        refine l_pass rfl ?_
        refine l_pass rfl ?_
        refine l_pass rfl ?_
        refine l_x rfl (x_pick_f rfl rfl) ?_
        refine l_x rfl (x_pick_f rfl rfl) ?_
        refine l_nil ?_
        refine r_false rfl ?_
        refine r_skip ?_
        refine r_seq ?_
        refine r_seq ?_
        refine r_region ?_
        refine l_x rfl (x_mv rfl) ?_
        refine l_x rfl (x_neq rfl rfl) ?_
        refine l_nil ?_
        refine r_ifd rfl (fun hc145 => ?_) (fun hc145 => ?_)
        · skip
          refine r_seq ?_
          refine r_region ?_
          refine l_call [] [] [] rfl rfl Tryz.call20 rfl (c_marked _ (hG.le S1.le)) ?_
          rintro _ w335 ⟨rfl, hl337⟩
          have S336 := S1.step hl337
          refine l_x rfl (x_as rfl) ?_
          refine l_nil ?_
          refine r_ret (rs := [.tmp 12]) [_] Tryz.func15 rfl ⟨rfl, trivial⟩ ?_
          exact ⟨by first | rfl | exact congrArg Value.bool (decide_eq_true rfl), S336.le⟩
        exact absurd (by decide) hc145
      refine l_pass rfl ?_
      refine l_pass rfl ?_
      refine l_x rfl (x_pick_f rfl rfl) ?_
      refine l_x rfl (x_pick_f rfl rfl) ?_
      refine l_x rfl (x_mv rfl) ?_
      refine l_x rfl (x_mv rfl) ?_
      refine l_x rfl (x_mv rfl) ?_
      refine l_x rfl (x_mv rfl) ?_
      refine l_x rfl (x_add rfl rfl (by omega)) ?_
      refine l_x rfl (x_gtr rfl rfl) ?_
      refine l_x rfl (x_pick_f rfl rfl) ?_
      refine l_x rfl (x_mv rfl) ?_
      refine l_splitd (d := 136) rfl (fun hg136 => ?_) (fun hg136 => ?_)
      · omega
      refine l_x rfl (x_mv rfl) ?_
      refine l_x rfl (x_mv rfl) ?_
      refine l_split (d := 138) rfl (fun hg138 => ?_) (fun hg138 => ?_)
      · skip
        refine l_x rfl (x_mv rfl) ?_
        refine l_x rfl (x_mv rfl) ?_
        refine l_x rfl (x_lss rfl rfl) ?_
        refine l_x rfl (x_pick_t rfl rfl) ?_
        refine l_x rfl (x_pick_f rfl rfl) ?_
        refine l_nil ?_
        refine r_ifd rfl (fun hc143 => ?_) (fun hc143 => ?_)
        · exact (rg_none hb9 hp9 hg138 ho0 hq9).elim
        refine r_skip ?_
        refine r_seq ?_
        refine r_seq ?_
        refine r_region ?_
        refine l_x rfl (x_mv rfl) ?_
        refine l_x rfl (x_neq rfl rfl) ?_
        refine l_nil ?_
        refine r_ifd rfl (fun hc145 => ?_) (fun hc145 => ?_)
        · skip
          refine r_seq ?_
          refine r_region ?_
          refine l_call [] [] [] rfl rfl Tryz.call20 rfl (c_marked _ (hG.le S1.le)) ?_
          rintro _ w338 ⟨rfl, hl340⟩
          have S339 := S1.step hl340
          refine l_x rfl (x_as rfl) ?_
          refine l_nil ?_
          refine r_ret (rs := [.tmp 12]) [_] Tryz.func15 rfl ⟨rfl, trivial⟩ ?_
          exact ⟨by first | rfl | exact congrArg Value.bool (decide_eq_true rfl), S339.le⟩
        exact absurd (by decide) hc145
      refine l_pass rfl ?_
      refine l_pass rfl ?_
      refine l_pass rfl ?_
      refine l_x rfl (x_pick_f rfl rfl) ?_
      refine l_x rfl (x_pick_f rfl rfl) ?_
      refine l_nil ?_
      refine r_false rfl ?_
      refine r_skip ?_
      refine r_seq ?_
      refine r_seq ?_
      refine r_region ?_
      refine l_x rfl (x_mv rfl) ?_
      refine l_x rfl (x_neq rfl rfl) ?_
      refine l_nil ?_
      refine r_ifd rfl (fun hc145 => ?_) (fun hc145 => ?_)
      · skip
        refine r_seq ?_
        refine r_region ?_
        refine l_call [] [] [] rfl rfl Tryz.call20 rfl (c_marked _ (hG.le S1.le)) ?_
        rintro _ w341 ⟨rfl, hl343⟩
        have S342 := S1.step hl343
        refine l_x rfl (x_as rfl) ?_
        refine l_nil ?_
        refine r_ret (rs := [.tmp 12]) [_] Tryz.func15 rfl ⟨rfl, trivial⟩ ?_
        exact ⟨by first | rfl | exact congrArg Value.bool (decide_eq_true rfl), S342.le⟩
      exact absurd (by decide) hc145
    exact absurd (by decide) hg117
  refine l_pass rfl ?_
  refine l_x rfl (x_pick_f rfl rfl) ?_
  refine l_nil ?_
  refine r_false rfl ?_
  refine r_exit rfl ?_
  refine r_seq ?_
  refine r_seq ?_
  refine r_region ?_
  refine l_x rfl (x_mv rfl) ?_
  refine l_x rfl (x_mv rfl) ?_
  refine l_x rfl (x_mv rfl) ?_
  refine l_x rfl (x_add rfl rfl (by omega)) ?_
  refine l_x rfl (x_gtr rfl rfl) ?_
  refine l_x rfl (x_mv rfl) ?_
  refine l_splitd (d := 114) rfl (fun hg114 => ?_) (fun hg114 => ?_)
  · have h9 := rg_cnt hb9 hp9 ho0 hI; omega
  refine l_x rfl (x_mv rfl) ?_
  refine l_x rfl (x_neq rfl rfl) ?_
  refine l_x rfl (x_mv rfl) ?_
  refine l_splitd (d := 117) rfl (fun hg117 => ?_) (fun hg117 => ?_)
  · skip
    refine l_x rfl (x_mv rfl) ?_
    refine l_x rfl (x_neq rfl rfl) ?_
    refine l_x rfl (x_pick_t rfl rfl) ?_
    refine l_x rfl (x_pick_f rfl rfl) ?_
    refine l_x rfl (x_mv rfl) ?_
    refine l_splitd (d := 122) rfl (fun hg122 => ?_) (fun hg122 => ?_)
    · exact absurd rfl hg122
    refine l_x rfl (x_mv rfl) ?_
    refine l_x rfl (x_mv rfl) ?_
    refine l_split (d := 124) rfl (fun hg124 => ?_) (fun hg124 => ?_)
    · skip
      refine l_x rfl (x_mv rfl) ?_
      refine l_x rfl (x_neq rfl rfl) ?_
      refine l_x rfl (x_pick_t rfl rfl) ?_
      refine l_x rfl (x_pick_f rfl rfl) ?_
      refine l_x rfl (x_mv rfl) ?_
      refine l_splitd (d := 129) rfl (fun hg129 => ?_) (fun hg129 => ?_)
      · exact (rg_none hb9 hp9 hg124 ho0 hq9).elim
      refine l_x rfl (x_mv rfl) ?_
      refine l_x rfl (x_mv rfl) ?_
      refine l_x rfl (x_mv rfl) ?_
      refine l_x rfl (x_add rfl rfl (by omega)) ?_
      refine l_x rfl (x_gtr rfl rfl) ?_
      refine l_x rfl (x_pick_f rfl rfl) ?_
      refine l_x rfl (x_mv rfl) ?_
      refine l_splitd (d := 136) rfl (fun hg136 => ?_) (fun hg136 => ?_)
      · omega
      refine l_x rfl (x_mv rfl) ?_
      refine l_x rfl (x_mv rfl) ?_
      refine l_split (d := 138) rfl (fun hg138 => ?_) (fun hg138 => ?_)
      · skip
        refine l_x rfl (x_mv rfl) ?_
        refine l_x rfl (x_mv rfl) ?_
        refine l_x rfl (x_lss rfl rfl) ?_
        refine l_x rfl (x_pick_t rfl rfl) ?_
        refine l_x rfl (x_pick_f rfl rfl) ?_
        refine l_nil ?_
        refine r_ifd rfl (fun hc143 => ?_) (fun hc143 => ?_)
        · exact (rg_none hb9 hp9 hg138 ho0 hq9).elim
        refine r_skip ?_
        refine r_seq ?_
        refine r_seq ?_
        refine r_region ?_
        refine l_x rfl (x_mv rfl) ?_
        refine l_x rfl (x_neq rfl rfl) ?_
        refine l_nil ?_
        refine r_ifd rfl (fun hc145 => ?_) (fun hc145 => ?_)
        · skip
          refine r_seq ?_
          refine r_region ?_
          refine l_call [] [] [] rfl rfl Tryz.call20 rfl (c_marked _ (hG.le S1.le)) ?_
          rintro _ w344 ⟨rfl, hl346⟩
          have S345 := S1.step hl346
          refine l_x rfl (x_as rfl) ?_
          refine l_nil ?_
          refine r_ret (rs := [.tmp 12]) [_] Tryz.func15 rfl ⟨rfl, trivial⟩ ?_
          exact ⟨by first | rfl | exact congrArg Value.bool (decide_eq_true rfl), S345.le⟩
        exact absurd (by decide) hc145
      refine l_pass rfl ?_
      refine l_pass rfl ?_
      refine l_pass rfl ?_
      refine l_x rfl (x_pick_f rfl rfl) ?_
      refine l_x rfl (x_pick_f rfl rfl) ?_
      refine l_nil ?_
      refine r_false rfl ?_
      refine r_skip ?_
      refine r_seq ?_
      refine r_seq ?_
      refine r_region ?_
      refine l_x rfl (x_mv rfl) ?_
      refine l_x rfl (x_neq rfl rfl) ?_
      refine l_nil ?_
      refine r_ifd rfl (fun hc145 => ?_) (fun hc145 => ?_)
      · skip
        refine r_seq ?_
        refine r_region ?_
        refine l_call [] [] [] rfl rfl Tryz.call20 rfl (c_marked _ (hG.le S1.le)) ?_
        rintro _ w347 ⟨rfl, hl349⟩
        have S348 := S1.step hl349
        refine l_x rfl (x_as rfl) ?_
        refine l_nil ?_
        refine r_ret (rs := [.tmp 12]) [_] Tryz.func15 rfl ⟨rfl, trivial⟩ ?_
        exact ⟨by first | rfl | exact congrArg Value.bool (decide_eq_true rfl), S348.le⟩
      exact absurd (by decide) hc145
    refine l_pass rfl ?_
    refine l_pass rfl ?_
    refine l_x rfl (x_pick_f rfl rfl) ?_
    refine l_x rfl (x_pick_f rfl rfl) ?_
    refine l_x rfl (x_mv rfl) ?_
    refine l_x rfl (x_mv rfl) ?_
    refine l_x rfl (x_mv rfl) ?_
    refine l_x rfl (x_mv rfl) ?_
    refine l_x rfl (x_add rfl rfl (by omega)) ?_
    refine l_x rfl (x_gtr rfl rfl) ?_
    refine l_x rfl (x_pick_f rfl rfl) ?_
    refine l_x rfl (x_mv rfl) ?_
    refine l_splitd (d := 136) rfl (fun hg136 => ?_) (fun hg136 => ?_)
    · omega
    refine l_x rfl (x_mv rfl) ?_
    refine l_x rfl (x_mv rfl) ?_
    refine l_split (d := 138) rfl (fun hg138 => ?_) (fun hg138 => ?_)
    · skip
      refine l_x rfl (x_mv rfl) ?_
      refine l_x rfl (x_mv rfl) ?_
      refine l_x rfl (x_lss rfl rfl) ?_
      refine l_x rfl (x_pick_t rfl rfl) ?_
      refine l_x rfl (x_pick_f rfl rfl) ?_
      refine l_nil ?_
      refine r_ifd rfl (fun hc143 => ?_) (fun hc143 => ?_)
      · exact (rg_none hb9 hp9 hg138 ho0 hq9).elim
      refine r_skip ?_
      refine r_seq ?_
      refine r_seq ?_
      refine r_region ?_
      refine l_x rfl (x_mv rfl) ?_
      refine l_x rfl (x_neq rfl rfl) ?_
      refine l_nil ?_
      refine r_ifd rfl (fun hc145 => ?_) (fun hc145 => ?_)
      · skip
        refine r_seq ?_
        refine r_region ?_
        refine l_call [] [] [] rfl rfl Tryz.call20 rfl (c_marked _ (hG.le S1.le)) ?_
        rintro _ w350 ⟨rfl, hl352⟩
        have S351 := S1.step hl352
        refine l_x rfl (x_as rfl) ?_
        refine l_nil ?_
        refine r_ret (rs := [.tmp 12]) [_] Tryz.func15 rfl ⟨rfl, trivial⟩ ?_
        exact ⟨by first | rfl | exact congrArg Value.bool (decide_eq_true rfl), S351.le⟩
      exact absurd (by decide) hc145
    refine l_pass rfl ?_
    refine l_pass rfl ?_
    refine l_pass rfl ?_
    refine l_x rfl (x_pick_f rfl rfl) ?_
    refine l_x rfl (x_pick_f rfl rfl) ?_
    refine l_nil ?_
    refine r_false rfl ?_
    refine r_skip ?_
    refine r_seq ?_
    refine r_seq ?_
    refine r_region ?_
    refine l_x rfl (x_mv rfl) ?_
    refine l_x rfl (x_neq rfl rfl) ?_
    refine l_nil ?_
    refine r_ifd rfl (fun hc145 => ?_) (fun hc145 => ?_)
    · skip
      refine r_seq ?_
      refine r_region ?_
      refine l_call [] [] [] rfl rfl Tryz.call20 rfl (c_marked _ (hG.le S1.le)) ?_
      rintro _ w353 ⟨rfl, hl355⟩
      have S354 := S1.step hl355
      refine l_x rfl (x_as rfl) ?_
      refine l_nil ?_
      refine r_ret (rs := [.tmp 12]) [_] Tryz.func15 rfl ⟨rfl, trivial⟩ ?_
      exact ⟨by first | rfl | exact congrArg Value.bool (decide_eq_true rfl), S354.le⟩
    exact absurd (by decide) hc145
  exact absurd (by decide) hg117

end Go.Proofs
