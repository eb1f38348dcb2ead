/- Texts joined for claims: LAlike. -/
import Derived.Test.YtaigapdghhoncaaGreatDoorK8a0fe47e94
import Derived.Test.YtaigapdghhoncaaGreatDoorK4937e3a03b
import Derived.Test.YtaigapdghhoncaaGreatDoorK8457264cc1
set_option linter.unusedVariables false
set_option linter.unusedSimpArgs false
set_option linter.unusedSectionVars false
/-
  Contracts of functions of the program: each by symbolic execution of its text.
-/
namespace Go.Proofs
open Go Go.Vk Go.Vk.Flow

open Go.Vk.Mark
open Go.Vk.Deed (i64 rng rng_iff owners sumI sumI_cons sumI_snoc)

set_option maxHeartbeats 4000000 in
/-- couchant/couchantlaw03.MarkAlike. -/
theorem lawAlike (b : Sm) (vm vf : Value) (day o p : Int) (s t : Sg) (hs : SgOk s) (ht : SgOk t) (w : World) (hB : SmR 39 41 w vm vf b) (hG : Gl w) :
    Cl Tryz.prog 13 #[.agg #[vm, vf], Value.int .i64 day, Value.int .i64 o, Value.int .i64 p, Value.agg (encSg s).toArray, Value.agg (encSg t).toArray] w fun v w' => v = .bool true ∧ Le w w' := by
  have hlm := hB.lm
  have hlf := hB.lf
  refine fn_of_run (args := [_, _, _, _, _, _]) 111 Tryz.func13 rfl rfl rfl fun cs => ?_
  have S := Own.start (X := nob) w
  refine r_seq ?_
  refine r_region ?_
  refine l_box S rfl rfl ?_
  intro b4 w1 S2 hl3
  refine l_box S2 rfl rfl ?_
  intro b8 w5 S6 hl7
  refine l_box S6 rfl rfl ?_
  intro b12 w9 S10 hl11
  refine l_x rfl (x_as rfl) ?_
  refine l_nil ?_
  refine r_seq ?_
  refine r_seq ?_
  refine r_region ?_
  refine l_x rfl (x_load rfl (ld_blks (S10.blk 0 rfl) Tryz.isAgg25 Tryz.sizeOf25 rfl rfl)) ?_
  refine l_call [] [] [_, _, _] rfl rfl Tryz.call19 rfl (c_few b vm vf _ _ _ _ _ (hB.le S10.le) rd_nil rd_nil) ?_
  rintro _ w13 ⟨q2813, rfl, hl2813⟩
  have S14 := S10.step hl2813
  refine l_x rfl (x_not rfl) ?_
  refine l_nil ?_
  refine r_if rfl (fun hc29 => ?_) (fun hc29 => ?_)
  · skip
    refine r_seq ?_
    refine r_region ?_
    refine l_call [] [] [] rfl rfl Tryz.call20 rfl (c_marked _ (hG.le S14.le)) ?_
    rintro _ w15 ⟨rfl, hl17⟩
    have S16 := S14.step hl17
    refine l_x rfl (x_as rfl) ?_
    refine l_nil ?_
    refine r_ret (rs := [.tmp 12]) [_] Tryz.func13 rfl ⟨rfl, trivial⟩ ?_
    exact ⟨rfl, S16.le⟩
  refine r_skip ?_
  refine r_seq ?_
  refine r_region ?_
  refine l_x rfl (x_load rfl (ld_blks (S14.blk 0 rfl) Tryz.isAgg25 Tryz.sizeOf25 rfl rfl)) ?_
  refine l_x rfl (x_mv rfl) ?_
  refine l_x rfl (x_mv rfl) ?_
  refine l_x rfl (x_mv rfl) ?_
  refine l_call [] [] [_, _, _, _] rfl rfl Tryz.call53 rfl (c_Alike b vm vf day o p _ (hB.le S14.le)) ?_
  rintro _ w18 ⟨rfl, hl20⟩
  have S19 := S14.step hl20
  refine l_x rfl (x_mv rfl) ?_
  refine l_x rfl (x_extract rfl rfl) ?_
  refine l_x rfl (x_extract rfl rfl) ?_
  refine l_x rfl (x_extract rfl rfl) ?_
  refine l_alloc S19 rfl Tryz.zeroValue30 rfl ?_
  intro b24 w21 S22 hl23
  refine l_stores (vs := [_, _, _, _, _, _]) S22 3 rfl rfl rfl rfl (ones_cons rfl (ones_cons rfl (ones_cons rfl (ones_cons rfl (ones_cons rfl (ones_cons rfl ones_nil)))))) Tryz.sizeOf30 (by first | exact Nat.le_refl _ | simp) (splice_all rfl) ?_
  intro w25 S26 hk27
  refine l_x rfl (x_as rfl) ?_
  refine l_x rfl (x_as rfl) ?_
  refine l_nil ?_
  refine r_seq ?_
  refine r_region ?_
  refine l_x rfl (x_load rfl (ld_blks (S26.blk 0 rfl) Tryz.isAgg25 Tryz.sizeOf25 rfl rfl)) ?_
  refine l_x rfl (x_mv rfl) ?_
  refine l_x rfl (x_mv rfl) ?_
  refine l_x rfl (x_mv rfl) ?_
  refine l_call [] [] [_, _, _, _] rfl rfl Tryz.call54 rfl (c_rAlike b vm vf day o p _ (hB.le S26.le)) ?_
  rintro _ w28 ⟨rfl, hl30⟩
  have S29 := S26.step hl30
  refine l_x rfl (x_mv rfl) ?_
  refine l_x rfl (x_extract rfl rfl) ?_
  refine l_x rfl (x_extract rfl rfl) ?_
  refine l_x rfl (x_extract rfl rfl) ?_
  refine l_alloc S29 rfl Tryz.zeroValue30 rfl ?_
  intro b34 w31 S32 hl33
  refine l_stores (vs := [_, _, _, _, _, _]) S32 4 rfl rfl rfl rfl (ones_cons rfl (ones_cons rfl (ones_cons rfl (ones_cons rfl (ones_cons rfl (ones_cons rfl ones_nil)))))) Tryz.sizeOf30 (by first | exact Nat.le_refl _ | simp) (splice_all rfl) ?_
  intro w35 S36 hk37
  refine l_x rfl (x_as rfl) ?_
  refine l_x rfl (x_as rfl) ?_
  refine l_nil ?_
  refine r_seq ?_
  refine r_region ?_
  refine l_x rfl (x_load rfl (ld_blks (S36.blk 0 rfl) Tryz.isAgg25 Tryz.sizeOf25 rfl rfl)) ?_
  refine l_x rfl (x_mv rfl) ?_
  refine l_call [] [] [_, _] rfl rfl Tryz.call25 rfl (c_Mistaken b vm vf day _ (hB.le S36.le)) ?_
  rintro _ w38 (⟨x1, hx1, rfl, hqx1, hl5238⟩ | ⟨s1, rfl, ho1, hN5238, hl5238⟩)
  · skip
    have S39 := S36.step hl5238
    refine l_x rfl (x_mv rfl) ?_
    refine l_x rfl (x_extract rfl rfl) ?_
    refine l_x rfl (x_extract rfl rfl) ?_
    refine l_x rfl (x_as rfl) ?_
    refine l_x rfl (x_as rfl) ?_
    refine l_nil ?_
    refine r_seq ?_
    refine r_region ?_
    refine l_x rfl (x_load rfl (ld_blks (S39.blk 0 rfl) Tryz.isAgg25 Tryz.sizeOf25 rfl rfl)) ?_
    refine l_x rfl (x_mv rfl) ?_
    refine l_call [] [] [_, _] rfl rfl Tryz.call55 rfl (c_rMistaken b vm vf day _ (hB.le S39.le)) ?_
    rintro _ w40 (⟨x2, hx2, rfl, hqx2, hl5840⟩ | ⟨s2, rfl, ho2, hN5840, hl5840⟩)
    · skip
      have S41 := S39.step hl5840
      refine l_x rfl (x_mv rfl) ?_
      refine l_x rfl (x_extract rfl rfl) ?_
      refine l_x rfl (x_extract rfl rfl) ?_
      refine l_x rfl (x_as rfl) ?_
      refine l_x rfl (x_as rfl) ?_
      refine l_nil ?_
      refine r_seq ?_
      refine r_region ?_
      refine l_x rfl (x_load rfl (ld_blks (S41.blk 0 rfl) Tryz.isAgg25 Tryz.sizeOf25 rfl rfl)) ?_
      refine l_x rfl (x_load rfl (ld_blks (S41.blk 1 rfl) Tryz.isAgg30 Tryz.sizeOf30 rfl rfl)) ?_
      refine l_x rfl (x_load rfl (ld_blks (S41.blk 2 rfl) Tryz.isAgg30 Tryz.sizeOf30 rfl rfl)) ?_
      refine l_call [] [] [_, _, _] rfl rfl Tryz.call33 rfl (c_Apart b vm vf s t hs ht _ (hB.le S41.le)) ?_
      rintro _ w42 (⟨y1, hy1, rfl, hqy1, hl6542⟩ | ⟨rfl, hp1, hl6542⟩)
      · skip
        have S43 := S41.step hl6542
        refine l_x rfl (x_mv rfl) ?_
        refine l_x rfl (x_extract rfl rfl) ?_
        refine l_x rfl (x_extract rfl rfl) ?_
        refine l_x rfl (x_as rfl) ?_
        refine l_x rfl (x_as rfl) ?_
        refine l_nil ?_
        refine r_seq ?_
        refine r_region ?_
        refine l_x rfl (x_load rfl (ld_blks (S43.blk 0 rfl) Tryz.isAgg25 Tryz.sizeOf25 rfl rfl)) ?_
        refine l_x rfl (x_load rfl (ld_blks (S43.blk 1 rfl) Tryz.isAgg30 Tryz.sizeOf30 rfl rfl)) ?_
        refine l_x rfl (x_load rfl (ld_blks (S43.blk 2 rfl) Tryz.isAgg30 Tryz.sizeOf30 rfl rfl)) ?_
        refine l_call [] [] [_, _, _] rfl rfl Tryz.call56 rfl (c_rApart b vm vf s t _ (hB.le S43.le)) ?_
        rintro _ w44 (⟨y2, hy2, rfl, hqy2, hl7244⟩ | ⟨rfl, hp2, hl7244⟩)
        · skip
          have S45 := S43.step hl7244
          refine l_x rfl (x_mv rfl) ?_
          refine l_x rfl (x_extract rfl rfl) ?_
          refine l_x rfl (x_extract rfl rfl) ?_
          refine l_x rfl (x_as rfl) ?_
          refine l_x rfl (x_as rfl) ?_
          refine l_nil ?_
          refine r_seq ?_
          refine r_region ?_
          refine l_call [] [] [] rfl rfl Tryz.call20 rfl (c_marked _ (hG.le S45.le)) ?_
          rintro _ w46 ⟨rfl, hl48⟩
          have S47 := S45.step hl48
          refine l_x rfl (x_mv rfl) ?_
          refine l_x rfl (x_load rfl (ld_blks (S47.blk 3 rfl) Tryz.isAgg30 Tryz.sizeOf30 rfl rfl)) ?_
          refine l_x rfl (x_load rfl (ld_blks (S47.blk 4 rfl) Tryz.isAgg30 Tryz.sizeOf30 rfl rfl)) ?_
          refine l_x rfl (x_eqS keySi ali_ok ali_ok rfl rfl) ?_
          refine l_x rfl (x_pick_t rfl rfl) ?_
          refine l_x rfl (x_mv rfl) ?_
          refine l_splitd (d := 81) rfl (fun hg81 => ?_) (fun hg81 => ?_)
          · skip
            refine l_x rfl (x_mv rfl) ?_
            refine l_x rfl (x_mv rfl) ?_
            refine l_x rfl (x_beq Tryz.runUnderlying4 rfl rfl) ?_
            refine l_x rfl (x_pick_t rfl rfl) ?_
            refine l_x rfl (x_mv rfl) ?_
            refine l_split (d := 86) rfl (fun hg86 => ?_) (fun hg86 => ?_)
            · skip
              refine l_x rfl (x_mv rfl) ?_
              refine l_x rfl (x_mv rfl) ?_
              refine l_x rfl (x_eql rfl rfl) ?_
              refine l_x rfl (x_pick_t rfl rfl) ?_
              refine l_x rfl (x_mv rfl) ?_
              refine l_splitd (d := 91) rfl (fun hg91 => ?_) (fun hg91 => ?_)
              · skip
                refine l_x rfl (x_mv rfl) ?_
                refine l_x rfl (x_mv rfl) ?_
                refine l_x rfl (x_eql rfl rfl) ?_
                refine l_x rfl (x_pick_t rfl rfl) ?_
                refine l_x rfl (x_mv rfl) ?_
                refine l_splitd (d := 96) rfl (fun hg96 => ?_) (fun hg96 => ?_)
                · skip
                  refine l_x rfl (x_mv rfl) ?_
                  refine l_x rfl (x_mv rfl) ?_
                  refine l_call [] [] [_, _] rfl rfl Tryz.call57 rfl ((c_SamePairs _ _ _ _ (by decide) (by simp) (by simp) _ rd_nil rd_nil).mono (fun v w' h => (⟨h.1.trans (congrArg Value.bool (decide_eq_true rfl)), h.2⟩ : v = .bool true ∧ Le _ w'))) ?_
                  rintro _ w49 ⟨rfl, hl51⟩
                  have S50 := S47.step hl51
                  refine l_x rfl (x_pick_t rfl rfl) ?_
                  refine l_x rfl (x_mv rfl) ?_
                  refine l_x rfl (x_mv rfl) ?_
                  refine l_x rfl (x_mv rfl) ?_
                  refine l_x rfl (x_eql rfl rfl) ?_
                  refine l_x rfl (x_pick_t rfl rfl) ?_
                  refine l_x rfl (x_mv rfl) ?_
                  refine l_splitd (d := 106) rfl (fun hg106 => ?_) (fun hg106 => ?_)
                  · skip
                    refine l_x rfl (x_mv rfl) ?_
                    refine l_x rfl (x_mv rfl) ?_
                    refine l_x rfl (x_eql rfl rfl) ?_
                    refine l_x rfl (x_pick_t rfl rfl) ?_
                    refine l_x rfl (x_as rfl) ?_
                    refine l_nil ?_
                    refine r_ret (rs := [.tmp 12]) [_] Tryz.func13 rfl ⟨rfl, trivial⟩ ?_
                    exact ⟨congrArg Value.bool (decide_eq_true (hqy1.trans hqy2.symm)), S50.le⟩
                  exact absurd rfl hg106
                exact absurd (hqx1.trans hqx2.symm) hg96
              exact absurd rfl hg91
            exact absurd hg86 (by simp)
          exact absurd rfl hg81
        exact absurd (hqy1.trans hp2) hy1
      have S52 := S41.step hl6542
      refine l_x rfl (x_mv rfl) ?_
      refine l_x rfl (x_extract rfl rfl) ?_
      refine l_x rfl (x_extract rfl rfl) ?_
      refine l_x rfl (x_as rfl) ?_
      refine l_x rfl (x_as rfl) ?_
      refine l_nil ?_
      refine r_seq ?_
      refine r_region ?_
      refine l_x rfl (x_load rfl (ld_blks (S52.blk 0 rfl) Tryz.isAgg25 Tryz.sizeOf25 rfl rfl)) ?_
      refine l_x rfl (x_load rfl (ld_blks (S52.blk 1 rfl) Tryz.isAgg30 Tryz.sizeOf30 rfl rfl)) ?_
      refine l_x rfl (x_load rfl (ld_blks (S52.blk 2 rfl) Tryz.isAgg30 Tryz.sizeOf30 rfl rfl)) ?_
      refine l_call [] [] [_, _, _] rfl rfl Tryz.call56 rfl (c_rApart b vm vf s t _ (hB.le S52.le)) ?_
      rintro _ w53 (⟨y2, hy2, rfl, hqy2, hl7253⟩ | ⟨rfl, hp2, hl7253⟩)
      · exact absurd (hqy2.trans hp1) hy2
      have S54 := S52.step hl7253
      refine l_x rfl (x_mv rfl) ?_
      refine l_x rfl (x_extract rfl rfl) ?_
      refine l_x rfl (x_extract rfl rfl) ?_
      refine l_x rfl (x_as rfl) ?_
      refine l_x rfl (x_as rfl) ?_
      refine l_nil ?_
      refine r_seq ?_
      refine r_region ?_
      refine l_call [] [] [] rfl rfl Tryz.call20 rfl (c_marked _ (hG.le S54.le)) ?_
      rintro _ w55 ⟨rfl, hl57⟩
      have S56 := S54.step hl57
      refine l_x rfl (x_mv rfl) ?_
      refine l_x rfl (x_load rfl (ld_blks (S56.blk 3 rfl) Tryz.isAgg30 Tryz.sizeOf30 rfl rfl)) ?_
      refine l_x rfl (x_load rfl (ld_blks (S56.blk 4 rfl) Tryz.isAgg30 Tryz.sizeOf30 rfl rfl)) ?_
      refine l_x rfl (x_eqS keySi ali_ok ali_ok rfl rfl) ?_
      refine l_x rfl (x_pick_t rfl rfl) ?_
      refine l_x rfl (x_mv rfl) ?_
      refine l_splitd (d := 81) rfl (fun hg81 => ?_) (fun hg81 => ?_)
      · skip
        refine l_x rfl (x_mv rfl) ?_
        refine l_x rfl (x_mv rfl) ?_
        refine l_x rfl (x_beq Tryz.runUnderlying4 rfl rfl) ?_
        refine l_x rfl (x_pick_t rfl rfl) ?_
        refine l_x rfl (x_mv rfl) ?_
        refine l_split (d := 86) rfl (fun hg86 => ?_) (fun hg86 => ?_)
        · skip
          refine l_x rfl (x_mv rfl) ?_
          refine l_x rfl (x_mv rfl) ?_
          refine l_x rfl (x_eql rfl rfl) ?_
          refine l_x rfl (x_pick_t rfl rfl) ?_
          refine l_x rfl (x_mv rfl) ?_
          refine l_splitd (d := 91) rfl (fun hg91 => ?_) (fun hg91 => ?_)
          · skip
            refine l_x rfl (x_mv rfl) ?_
            refine l_x rfl (x_mv rfl) ?_
            refine l_x rfl (x_eql rfl rfl) ?_
            refine l_x rfl (x_pick_t rfl rfl) ?_
            refine l_x rfl (x_mv rfl) ?_
            refine l_splitd (d := 96) rfl (fun hg96 => ?_) (fun hg96 => ?_)
            · skip
              refine l_x rfl (x_mv rfl) ?_
              refine l_x rfl (x_mv rfl) ?_
              refine l_call [] [] [_, _] rfl rfl Tryz.call57 rfl ((c_SamePairs _ _ _ _ (by decide) (by simp) (by simp) _ rd_nil rd_nil).mono (fun v w' h => (⟨h.1.trans (congrArg Value.bool (decide_eq_true rfl)), h.2⟩ : v = .bool true ∧ Le _ w'))) ?_
              rintro _ w58 ⟨rfl, hl60⟩
              have S59 := S56.step hl60
              refine l_x rfl (x_pick_t rfl rfl) ?_
              refine l_x rfl (x_mv rfl) ?_
              refine l_x rfl (x_mv rfl) ?_
              refine l_x rfl (x_mv rfl) ?_
              refine l_x rfl (x_eql rfl rfl) ?_
              refine l_x rfl (x_pick_t rfl rfl) ?_
              refine l_x rfl (x_mv rfl) ?_
              refine l_splitd (d := 106) rfl (fun hg106 => ?_) (fun hg106 => ?_)
              · skip
                refine l_x rfl (x_mv rfl) ?_
                refine l_x rfl (x_mv rfl) ?_
                refine l_x rfl (x_eql rfl rfl) ?_
                refine l_x rfl (x_pick_t rfl rfl) ?_
                refine l_x rfl (x_as rfl) ?_
                refine l_nil ?_
                refine r_ret (rs := [.tmp 12]) [_] Tryz.func13 rfl ⟨rfl, trivial⟩ ?_
                exact ⟨congrArg Value.bool (decide_eq_true rfl), S59.le⟩
              exact absurd rfl hg106
            exact absurd (hqx1.trans hqx2.symm) hg96
          exact absurd rfl hg91
        exact absurd hg86 (by simp)
      exact absurd rfl hg81
    exact absurd (hqx1.trans ho2) hx1
  have S61 := S36.add hl5238 hN5238
  refine l_x rfl (x_mv rfl) ?_
  refine l_x rfl (x_extract rfl rfl) ?_
  refine l_x rfl (x_extract rfl rfl) ?_
  refine l_x rfl (x_as rfl) ?_
  refine l_x rfl (x_as rfl) ?_
  refine l_nil ?_
  refine r_seq ?_
  refine r_region ?_
  refine l_x rfl (x_load rfl (ld_blks (S61.blk 0 rfl) Tryz.isAgg25 Tryz.sizeOf25 rfl rfl)) ?_
  refine l_x rfl (x_mv rfl) ?_
  refine l_call [] [] [_, _] rfl rfl Tryz.call55 rfl (c_rMistaken b vm vf day _ (hB.le S61.le)) ?_
  rintro _ w62 (⟨x2, hx2, rfl, hqx2, hl5862⟩ | ⟨s2, rfl, ho2, hN5862, hl5862⟩)
  · exact absurd (hqx2.trans ho1) hx2
  have S63 := S61.add hl5862 hN5862
  refine l_x rfl (x_mv rfl) ?_
  refine l_x rfl (x_extract rfl rfl) ?_
  refine l_x rfl (x_extract rfl rfl) ?_
  refine l_x rfl (x_as rfl) ?_
  refine l_x rfl (x_as rfl) ?_
  refine l_nil ?_
  refine r_seq ?_
  refine r_region ?_
  refine l_x rfl (x_load rfl (ld_blks (S63.blk 0 rfl) Tryz.isAgg25 Tryz.sizeOf25 rfl rfl)) ?_
  refine l_x rfl (x_load rfl (ld_blks (S63.blk 1 rfl) Tryz.isAgg30 Tryz.sizeOf30 rfl rfl)) ?_
  refine l_x rfl (x_load rfl (ld_blks (S63.blk 2 rfl) Tryz.isAgg30 Tryz.sizeOf30 rfl rfl)) ?_
  refine l_call [] [] [_, _, _] rfl rfl Tryz.call33 rfl (c_Apart b vm vf s t hs ht _ (hB.le S63.le)) ?_
  rintro _ w64 (⟨y1, hy1, rfl, hqy1, hl6564⟩ | ⟨rfl, hp1, hl6564⟩)
  · skip
    have S65 := S63.step hl6564
    refine l_x rfl (x_mv rfl) ?_
    refine l_x rfl (x_extract rfl rfl) ?_
    refine l_x rfl (x_extract rfl rfl) ?_
    refine l_x rfl (x_as rfl) ?_
    refine l_x rfl (x_as rfl) ?_
    refine l_nil ?_
    refine r_seq ?_
    refine r_region ?_
    refine l_x rfl (x_load rfl (ld_blks (S65.blk 0 rfl) Tryz.isAgg25 Tryz.sizeOf25 rfl rfl)) ?_
    refine l_x rfl (x_load rfl (ld_blks (S65.blk 1 rfl) Tryz.isAgg30 Tryz.sizeOf30 rfl rfl)) ?_
    refine l_x rfl (x_load rfl (ld_blks (S65.blk 2 rfl) Tryz.isAgg30 Tryz.sizeOf30 rfl rfl)) ?_
    refine l_call [] [] [_, _, _] rfl rfl Tryz.call56 rfl (c_rApart b vm vf s t _ (hB.le S65.le)) ?_
    rintro _ w66 (⟨y2, hy2, rfl, hqy2, hl7266⟩ | ⟨rfl, hp2, hl7266⟩)
    · skip
      have S67 := S65.step hl7266
      refine l_x rfl (x_mv rfl) ?_
      refine l_x rfl (x_extract rfl rfl) ?_
      refine l_x rfl (x_extract rfl rfl) ?_
      refine l_x rfl (x_as rfl) ?_
      refine l_x rfl (x_as rfl) ?_
      refine l_nil ?_
      refine r_seq ?_
      refine r_region ?_
      refine l_call [] [] [] rfl rfl Tryz.call20 rfl (c_marked _ (hG.le S67.le)) ?_
      rintro _ w68 ⟨rfl, hl70⟩
      have S69 := S67.step hl70
      refine l_x rfl (x_mv rfl) ?_
      refine l_x rfl (x_load rfl (ld_blks (S69.blk 3 rfl) Tryz.isAgg30 Tryz.sizeOf30 rfl rfl)) ?_
      refine l_x rfl (x_load rfl (ld_blks (S69.blk 4 rfl) Tryz.isAgg30 Tryz.sizeOf30 rfl rfl)) ?_
      refine l_x rfl (x_eqS keySi ali_ok ali_ok rfl rfl) ?_
      refine l_x rfl (x_pick_t rfl rfl) ?_
      refine l_x rfl (x_mv rfl) ?_
      refine l_splitd (d := 81) rfl (fun hg81 => ?_) (fun hg81 => ?_)
      · skip
        refine l_x rfl (x_mv rfl) ?_
        refine l_x rfl (x_mv rfl) ?_
        refine l_x rfl (x_beq Tryz.runUnderlying4 rfl rfl) ?_
        refine l_x rfl (x_pick_t rfl rfl) ?_
        refine l_x rfl (x_mv rfl) ?_
        refine l_split (d := 86) rfl (fun hg86 => ?_) (fun hg86 => ?_)
        · skip
          refine l_x rfl (x_mv rfl) ?_
          refine l_x rfl (x_mv rfl) ?_
          refine l_x rfl (x_eql rfl rfl) ?_
          refine l_x rfl (x_pick_t rfl rfl) ?_
          refine l_x rfl (x_mv rfl) ?_
          refine l_splitd (d := 91) rfl (fun hg91 => ?_) (fun hg91 => ?_)
          · skip
            refine l_x rfl (x_mv rfl) ?_
            refine l_x rfl (x_mv rfl) ?_
            refine l_x rfl (x_eql rfl rfl) ?_
            refine l_x rfl (x_pick_t rfl rfl) ?_
            refine l_x rfl (x_mv rfl) ?_
            refine l_splitd (d := 96) rfl (fun hg96 => ?_) (fun hg96 => ?_)
            · skip
              refine l_x rfl (x_mv rfl) ?_
              refine l_x rfl (x_mv rfl) ?_
              refine l_call [] [] [_, _] rfl rfl Tryz.call57 rfl ((c_SamePairs _ _ _ _ (by have := mis_len9 ho1; omega) mis_ok mis_ok _ (vec_rd (S69.at 5 rfl)) (vec_rd (S69.at 6 rfl))).mono (fun v w' h => (⟨h.1.trans (congrArg Value.bool (decide_eq_true rfl)), h.2⟩ : v = .bool true ∧ Le _ w'))) ?_
              rintro _ w71 ⟨rfl, hl73⟩
              have S72 := S69.step hl73
              refine l_x rfl (x_pick_t rfl rfl) ?_
              refine l_x rfl (x_mv rfl) ?_
              refine l_x rfl (x_mv rfl) ?_
              refine l_x rfl (x_mv rfl) ?_
              refine l_x rfl (x_eql rfl rfl) ?_
              refine l_x rfl (x_pick_t rfl rfl) ?_
              refine l_x rfl (x_mv rfl) ?_
              refine l_splitd (d := 106) rfl (fun hg106 => ?_) (fun hg106 => ?_)
              · skip
                refine l_x rfl (x_mv rfl) ?_
                refine l_x rfl (x_mv rfl) ?_
                refine l_x rfl (x_eql rfl rfl) ?_
                refine l_x rfl (x_pick_t rfl rfl) ?_
                refine l_x rfl (x_as rfl) ?_
                refine l_nil ?_
                refine r_ret (rs := [.tmp 12]) [_] Tryz.func13 rfl ⟨rfl, trivial⟩ ?_
                exact ⟨congrArg Value.bool (decide_eq_true (hqy1.trans hqy2.symm)), S72.le⟩
              exact absurd rfl hg106
            exact absurd rfl hg96
          exact absurd rfl hg91
        exact absurd hg86 (by simp)
      exact absurd rfl hg81
    exact absurd (hqy1.trans hp2) hy1
  have S74 := S63.step hl6564
  refine l_x rfl (x_mv rfl) ?_
  refine l_x rfl (x_extract rfl rfl) ?_
  refine l_x rfl (x_extract rfl rfl) ?_
  refine l_x rfl (x_as rfl) ?_
  refine l_x rfl (x_as rfl) ?_
  refine l_nil ?_
  refine r_seq ?_
  refine r_region ?_
  refine l_x rfl (x_load rfl (ld_blks (S74.blk 0 rfl) Tryz.isAgg25 Tryz.sizeOf25 rfl rfl)) ?_
  refine l_x rfl (x_load rfl (ld_blks (S74.blk 1 rfl) Tryz.isAgg30 Tryz.sizeOf30 rfl rfl)) ?_
  refine l_x rfl (x_load rfl (ld_blks (S74.blk 2 rfl) Tryz.isAgg30 Tryz.sizeOf30 rfl rfl)) ?_
  refine l_call [] [] [_, _, _] rfl rfl Tryz.call56 rfl (c_rApart b vm vf s t _ (hB.le S74.le)) ?_
  rintro _ w75 (⟨y2, hy2, rfl, hqy2, hl7275⟩ | ⟨rfl, hp2, hl7275⟩)
  · exact absurd (hqy2.trans hp1) hy2
  have S76 := S74.step hl7275
  refine l_x rfl (x_mv rfl) ?_
  refine l_x rfl (x_extract rfl rfl) ?_
  refine l_x rfl (x_extract rfl rfl) ?_
  refine l_x rfl (x_as rfl) ?_
  refine l_x rfl (x_as rfl) ?_
  refine l_nil ?_
  refine r_seq ?_
  refine r_region ?_
  refine l_call [] [] [] rfl rfl Tryz.call20 rfl (c_marked _ (hG.le S76.le)) ?_
  rintro _ w77 ⟨rfl, hl79⟩
  have S78 := S76.step hl79
  refine l_x rfl (x_mv rfl) ?_
  refine l_x rfl (x_load rfl (ld_blks (S78.blk 3 rfl) Tryz.isAgg30 Tryz.sizeOf30 rfl rfl)) ?_
  refine l_x rfl (x_load rfl (ld_blks (S78.blk 4 rfl) Tryz.isAgg30 Tryz.sizeOf30 rfl rfl)) ?_
  refine l_x rfl (x_eqS keySi ali_ok ali_ok rfl rfl) ?_
  refine l_x rfl (x_pick_t rfl rfl) ?_
  refine l_x rfl (x_mv rfl) ?_
  refine l_splitd (d := 81) rfl (fun hg81 => ?_) (fun hg81 => ?_)
  · skip
    refine l_x rfl (x_mv rfl) ?_
    refine l_x rfl (x_mv rfl) ?_
    refine l_x rfl (x_beq Tryz.runUnderlying4 rfl rfl) ?_
    refine l_x rfl (x_pick_t rfl rfl) ?_
    refine l_x rfl (x_mv rfl) ?_
    refine l_split (d := 86) rfl (fun hg86 => ?_) (fun hg86 => ?_)
    · skip
      refine l_x rfl (x_mv rfl) ?_
      refine l_x rfl (x_mv rfl) ?_
      refine l_x rfl (x_eql rfl rfl) ?_
      refine l_x rfl (x_pick_t rfl rfl) ?_
      refine l_x rfl (x_mv rfl) ?_
      refine l_splitd (d := 91) rfl (fun hg91 => ?_) (fun hg91 => ?_)
      · skip
        refine l_x rfl (x_mv rfl) ?_
        refine l_x rfl (x_mv rfl) ?_
        refine l_x rfl (x_eql rfl rfl) ?_
        refine l_x rfl (x_pick_t rfl rfl) ?_
        refine l_x rfl (x_mv rfl) ?_
        refine l_splitd (d := 96) rfl (fun hg96 => ?_) (fun hg96 => ?_)
        · skip
          refine l_x rfl (x_mv rfl) ?_
          refine l_x rfl (x_mv rfl) ?_
          refine l_call [] [] [_, _] rfl rfl Tryz.call57 rfl ((c_SamePairs _ _ _ _ (by have := mis_len9 ho1; omega) mis_ok mis_ok _ (vec_rd (S78.at 5 rfl)) (vec_rd (S78.at 6 rfl))).mono (fun v w' h => (⟨h.1.trans (congrArg Value.bool (decide_eq_true rfl)), h.2⟩ : v = .bool true ∧ Le _ w'))) ?_
          rintro _ w80 ⟨rfl, hl82⟩
          have S81 := S78.step hl82
          refine l_x rfl (x_pick_t rfl rfl) ?_
          refine l_x rfl (x_mv rfl) ?_
          refine l_x rfl (x_mv rfl) ?_
          refine l_x rfl (x_mv rfl) ?_
          refine l_x rfl (x_eql rfl rfl) ?_
          refine l_x rfl (x_pick_t rfl rfl) ?_
          refine l_x rfl (x_mv rfl) ?_
          refine l_splitd (d := 106) rfl (fun hg106 => ?_) (fun hg106 => ?_)
          · skip
            refine l_x rfl (x_mv rfl) ?_
            refine l_x rfl (x_mv rfl) ?_
            refine l_x rfl (x_eql rfl rfl) ?_
            refine l_x rfl (x_pick_t rfl rfl) ?_
            refine l_x rfl (x_as rfl) ?_
            refine l_nil ?_
            refine r_ret (rs := [.tmp 12]) [_] Tryz.func13 rfl ⟨rfl, trivial⟩ ?_
            exact ⟨congrArg Value.bool (decide_eq_true rfl), S81.le⟩
          exact absurd rfl hg106
        exact absurd rfl hg96
      exact absurd rfl hg91
    exact absurd hg86 (by simp)
  exact absurd rfl hg81

end Go.Proofs
