/- Texts joined for claims: LSights. -/
import Derived.Test.YtaigapdghhoncaaGreatDoorK8a0fe47e94
import Derived.Test.YtaigapdghhoncaaGreatDoorK4937e3a03b
set_option linter.unusedVariables false
set_option linter.unusedSimpArgs false
set_option linter.unusedSectionVars false
/-
  Contracts of functions of the program: each by symbolic execution of its text.
-/
namespace Go.Proofs
open Go Go.Vk Go.Vk.Flow

open Go.Vk.Mark
open Go.Vk.Deed (i64 rng rng_iff owners sumI sumI_cons sumI_snoc)

set_option maxHeartbeats 4000000 in
/-- couchant/couchantlaw03.MarkSights. -/
theorem lawSights (b : Sm) (vm vf : Value) (day o : Int) (s : Sg) (hs : SgOk s) (w : World) (hB : SmR 39 41 w vm vf b) (hG : Gl w) :
    Cl Tryz.prog 9 #[.agg #[vm, vf], Value.int .i64 day, Value.agg (encSg s).toArray, Value.int .i64 o] w fun v w' => v = .bool true ∧ Le w w' := by
  have hlm := hB.lm
  have hlf := hB.lf
  refine fn_of_run (args := [_, _, _, _]) 109 Tryz.func9 rfl rfl rfl fun cs => ?_
  have S := Own.start (X := nob) w
  refine r_seq ?_
  refine r_region ?_
  refine l_box S rfl rfl ?_
  intro b4 w1 S2 hl3
  refine l_box S2 rfl rfl ?_
  intro b8 w5 S6 hl7
  refine l_x rfl (x_as rfl) ?_
  refine l_nil ?_
  refine r_seq ?_
  refine r_seq ?_
  refine r_region ?_
  refine l_x rfl (x_load rfl (ld_blks (S6.blk 0 rfl) Tryz.isAgg25 Tryz.sizeOf25 rfl rfl)) ?_
  refine l_call [] [] [_, _, _] rfl rfl Tryz.call19 rfl (c_few b vm vf _ _ _ _ _ (hB.le S6.le) rd_nil rd_nil) ?_
  rintro _ w9 ⟨q249, rfl, hl249⟩
  have S10 := S6.step hl249
  refine l_x rfl (x_not rfl) ?_
  refine l_nil ?_
  refine r_if rfl (fun hc25 => ?_) (fun hc25 => ?_)
  · skip
    refine r_seq ?_
    refine r_region ?_
    refine l_call [] [] [] rfl rfl Tryz.call20 rfl (c_marked _ (hG.le S10.le)) ?_
    rintro _ w11 ⟨rfl, hl13⟩
    have S12 := S10.step hl13
    refine l_x rfl (x_as rfl) ?_
    refine l_nil ?_
    refine r_ret (rs := [.tmp 8]) [_] Tryz.func9 rfl ⟨rfl, trivial⟩ ?_
    exact ⟨by first | exact congrArg Value.bool (decide_eq_true rfl) | rfl, S12.le⟩
  refine r_skip ?_
  refine r_seq ?_
  refine r_region ?_
  refine l_x rfl (x_load rfl (ld_blks (S10.blk 0 rfl) Tryz.isAgg25 Tryz.sizeOf25 rfl rfl)) ?_
  refine l_x rfl (x_mv rfl) ?_
  refine l_x rfl (x_load rfl (ld_blks (S10.blk 1 rfl) Tryz.isAgg30 Tryz.sizeOf30 rfl rfl)) ?_
  refine l_x rfl (x_mv rfl) ?_
  refine l_call [] [] [_, _, _, _] rfl rfl Tryz.call23 rfl (c_Fits b vm vf day o s hs _ (hB.le S10.le)) ?_
  rintro _ w14 ⟨rfl, hl16⟩
  have S15 := S10.step hl16
  refine l_x rfl (x_mv rfl) ?_
  refine l_x rfl (x_extract rfl rfl) ?_
  refine l_x rfl (x_extract rfl rfl) ?_
  refine l_x rfl (x_as rfl) ?_
  refine l_x rfl (x_as rfl) ?_
  refine l_nil ?_
  refine r_seq ?_
  refine r_region ?_
  refine l_x rfl (x_load rfl (ld_blks (S15.blk 0 rfl) Tryz.isAgg25 Tryz.sizeOf25 rfl rfl)) ?_
  refine l_x rfl (x_mv rfl) ?_
  refine l_x rfl (x_load rfl (ld_blks (S15.blk 1 rfl) Tryz.isAgg30 Tryz.sizeOf30 rfl rfl)) ?_
  refine l_x rfl (x_mv rfl) ?_
  refine l_call [] [] [_, _, _, _] rfl rfl Tryz.call39 rfl (c_rFits b vm vf day o s _ (hB.le S15.le)) ?_
  rintro _ w17 ⟨rfl, hl19⟩
  have S18 := S15.step hl19
  refine l_x rfl (x_mv rfl) ?_
  refine l_x rfl (x_extract rfl rfl) ?_
  refine l_x rfl (x_extract rfl rfl) ?_
  refine l_x rfl (x_as rfl) ?_
  refine l_x rfl (x_as rfl) ?_
  refine l_nil ?_
  refine r_seq ?_
  refine r_region ?_
  refine l_x rfl (x_load rfl (ld_blks (S18.blk 0 rfl) Tryz.isAgg25 Tryz.sizeOf25 rfl rfl)) ?_
  refine l_x rfl (x_mv rfl) ?_
  refine l_x rfl (x_load rfl (ld_blks (S18.blk 1 rfl) Tryz.isAgg30 Tryz.sizeOf30 rfl rfl)) ?_
  refine l_call [] [] [_, _, _] rfl rfl Tryz.call40 rfl (c_Owners b vm vf day s hs _ (hB.le S18.le)) ?_
  rintro _ w20 (⟨x1, hx1, rfl, hqx1, hl4720⟩ | ⟨s1, rfl, ho1, hN4720, hl4720⟩)
  · skip
    have S21 := S18.step hl4720
    refine l_x rfl (x_mv rfl) ?_
    refine l_x rfl (x_extract rfl rfl) ?_
    refine l_x rfl (x_extract rfl rfl) ?_
    refine l_x rfl (x_as rfl) ?_
    refine l_x rfl (x_as rfl) ?_
    refine l_nil ?_
    refine r_seq ?_
    refine r_region ?_
    refine l_x rfl (x_load rfl (ld_blks (S21.blk 0 rfl) Tryz.isAgg25 Tryz.sizeOf25 rfl rfl)) ?_
    refine l_x rfl (x_mv rfl) ?_
    refine l_x rfl (x_load rfl (ld_blks (S21.blk 1 rfl) Tryz.isAgg30 Tryz.sizeOf30 rfl rfl)) ?_
    refine l_call [] [] [_, _, _] rfl rfl Tryz.call41 rfl (c_rOwners b vm vf day s _ (hB.le S21.le)) ?_
    rintro _ w22 (⟨x2, hx2, rfl, hqx2, hl5422⟩ | ⟨s2, rfl, ho2, hN5422, hl5422⟩)
    · skip
      have S23 := S21.step hl5422
      refine l_x rfl (x_mv rfl) ?_
      refine l_x rfl (x_extract rfl rfl) ?_
      refine l_x rfl (x_extract rfl rfl) ?_
      refine l_x rfl (x_as rfl) ?_
      refine l_x rfl (x_as rfl) ?_
      refine l_nil ?_
      refine r_seq ?_
      refine r_region ?_
      refine l_x rfl (x_load rfl (ld_blks (S23.blk 0 rfl) Tryz.isAgg25 Tryz.sizeOf25 rfl rfl)) ?_
      refine l_x rfl (x_mv rfl) ?_
      refine l_x rfl (x_load rfl (ld_blks (S23.blk 1 rfl) Tryz.isAgg30 Tryz.sizeOf30 rfl rfl)) ?_
      refine l_call [] [] [_, _, _] rfl rfl Tryz.call42 rfl (c_Sure b vm vf day s hs _ (hB.le S23.le)) ?_
      rintro _ w24 ⟨rfl, hl26⟩
      have S25 := S23.step hl26
      refine l_x rfl (x_mv rfl) ?_
      refine l_x rfl (x_extract rfl rfl) ?_
      refine l_x rfl (x_extract rfl rfl) ?_
      refine l_x rfl (x_extract rfl rfl) ?_
      refine l_x rfl (x_as rfl) ?_
      refine l_x rfl (x_as rfl) ?_
      refine l_x rfl (x_as rfl) ?_
      refine l_nil ?_
      refine r_seq ?_
      refine r_region ?_
      refine l_x rfl (x_load rfl (ld_blks (S25.blk 0 rfl) Tryz.isAgg25 Tryz.sizeOf25 rfl rfl)) ?_
      refine l_x rfl (x_mv rfl) ?_
      refine l_x rfl (x_load rfl (ld_blks (S25.blk 1 rfl) Tryz.isAgg30 Tryz.sizeOf30 rfl rfl)) ?_
      refine l_call [] [] [_, _, _] rfl rfl Tryz.call43 rfl (c_rSure b vm vf day s hs _ (hB.le S25.le)) ?_
      rintro _ w27 ⟨rfl, hl29⟩
      have S28 := S25.step hl29
      refine l_x rfl (x_mv rfl) ?_
      refine l_x rfl (x_extract rfl rfl) ?_
      refine l_x rfl (x_extract rfl rfl) ?_
      refine l_x rfl (x_extract rfl rfl) ?_
      refine l_x rfl (x_as rfl) ?_
      refine l_x rfl (x_as rfl) ?_
      refine l_x rfl (x_as rfl) ?_
      refine l_nil ?_
      refine r_seq ?_
      refine r_region ?_
      refine l_call [] [] [] rfl rfl Tryz.call20 rfl (c_marked _ (hG.le S28.le)) ?_
      rintro _ w30 ⟨rfl, hl32⟩
      have S31 := S28.step hl32
      refine l_x rfl (x_mv rfl) ?_
      refine l_x rfl (x_mv rfl) ?_
      refine l_x rfl (x_mv rfl) ?_
      refine l_x rfl (x_beq Tryz.runUnderlying4 rfl rfl) ?_
      refine l_x rfl (x_pick_t rfl rfl) ?_
      refine l_x rfl (x_mv rfl) ?_
      refine l_split (d := 79) rfl (fun hg79 => ?_) (fun hg79 => ?_)
      · skip
        refine l_x rfl (x_mv rfl) ?_
        refine l_x rfl (x_mv rfl) ?_
        refine l_x rfl (x_eql rfl rfl) ?_
        refine l_x rfl (x_pick_t rfl rfl) ?_
        refine l_x rfl (x_mv rfl) ?_
        refine l_splitd (d := 84) rfl (fun hg84 => ?_) (fun hg84 => ?_)
        · skip
          refine l_x rfl (x_mv rfl) ?_
          refine l_x rfl (x_mv rfl) ?_
          refine l_x rfl (x_eql rfl rfl) ?_
          refine l_x rfl (x_pick_t rfl rfl) ?_
          refine l_x rfl (x_mv rfl) ?_
          refine l_splitd (d := 89) rfl (fun hg89 => ?_) (fun hg89 => ?_)
          · skip
            refine l_x rfl (x_mv rfl) ?_
            refine l_x rfl (x_mv rfl) ?_
            refine l_call [] [] [_, _] rfl rfl Tryz.call31 rfl ((c_SameInts _ _ _ _ (by decide) _ rd_nil rd_nil).mono (fun v w' h => (⟨h.1.trans (congrArg Value.bool (decide_eq_true rfl)), h.2⟩ : v = .bool true ∧ Le _ w'))) ?_
            rintro _ w33 ⟨rfl, hl35⟩
            have S34 := S31.step hl35
            refine l_x rfl (x_pick_t rfl rfl) ?_
            refine l_x rfl (x_mv rfl) ?_
            refine l_x rfl (x_mv rfl) ?_
            refine l_x rfl (x_mv rfl) ?_
            refine l_x rfl (x_eql rfl rfl) ?_
            refine l_x rfl (x_pick_t rfl rfl) ?_
            refine l_x rfl (x_mv rfl) ?_
            refine l_splitd (d := 99) rfl (fun hg99 => ?_) (fun hg99 => ?_)
            · skip
              refine l_x rfl (x_mv rfl) ?_
              refine l_x rfl (x_mv rfl) ?_
              refine l_x rfl (x_beq Tryz.runUnderlying4 rfl rfl) ?_
              refine l_x rfl (x_pick_t rfl rfl) ?_
              refine l_x rfl (x_mv rfl) ?_
              refine l_split (d := 104) rfl (fun hg104 => ?_) (fun hg104 => ?_)
              · skip
                refine l_x rfl (x_mv rfl) ?_
                refine l_x rfl (x_mv rfl) ?_
                refine l_x rfl (x_eql rfl rfl) ?_
                refine l_x rfl (x_pick_t rfl rfl) ?_
                refine l_x rfl (x_as rfl) ?_
                refine l_nil ?_
                refine r_ret (rs := [.tmp 8]) [_] Tryz.func9 rfl ⟨rfl, trivial⟩ ?_
                exact ⟨by first | exact congrArg Value.bool (decide_eq_true rfl) | rfl, S34.le⟩
              exact absurd hg104 (by simp)
            exact absurd rfl hg99
          exact absurd (hqx1.trans hqx2.symm) hg89
        exact absurd rfl hg84
      exact absurd hg79 (by simp)
    exact absurd (hqx1.trans ho2) hx1
  have S36 := S18.add hl4720 hN4720
  refine l_x rfl (x_mv rfl) ?_
  refine l_x rfl (x_extract rfl rfl) ?_
  refine l_x rfl (x_extract rfl rfl) ?_
  refine l_x rfl (x_as rfl) ?_
  refine l_x rfl (x_as rfl) ?_
  refine l_nil ?_
  refine r_seq ?_
  refine r_region ?_
  refine l_x rfl (x_load rfl (ld_blks (S36.blk 0 rfl) Tryz.isAgg25 Tryz.sizeOf25 rfl rfl)) ?_
  refine l_x rfl (x_mv rfl) ?_
  refine l_x rfl (x_load rfl (ld_blks (S36.blk 1 rfl) Tryz.isAgg30 Tryz.sizeOf30 rfl rfl)) ?_
  refine l_call [] [] [_, _, _] rfl rfl Tryz.call41 rfl (c_rOwners b vm vf day s _ (hB.le S36.le)) ?_
  rintro _ w37 (⟨x2, hx2, rfl, hqx2, hl5437⟩ | ⟨s2, rfl, ho2, hN5437, hl5437⟩)
  · exact absurd (hqx2.trans ho1) hx2
  have S38 := S36.add hl5437 hN5437
  refine l_x rfl (x_mv rfl) ?_
  refine l_x rfl (x_extract rfl rfl) ?_
  refine l_x rfl (x_extract rfl rfl) ?_
  refine l_x rfl (x_as rfl) ?_
  refine l_x rfl (x_as rfl) ?_
  refine l_nil ?_
  refine r_seq ?_
  refine r_region ?_
  refine l_x rfl (x_load rfl (ld_blks (S38.blk 0 rfl) Tryz.isAgg25 Tryz.sizeOf25 rfl rfl)) ?_
  refine l_x rfl (x_mv rfl) ?_
  refine l_x rfl (x_load rfl (ld_blks (S38.blk 1 rfl) Tryz.isAgg30 Tryz.sizeOf30 rfl rfl)) ?_
  refine l_call [] [] [_, _, _] rfl rfl Tryz.call42 rfl (c_Sure b vm vf day s hs _ (hB.le S38.le)) ?_
  rintro _ w39 ⟨rfl, hl41⟩
  have S40 := S38.step hl41
  refine l_x rfl (x_mv rfl) ?_
  refine l_x rfl (x_extract rfl rfl) ?_
  refine l_x rfl (x_extract rfl rfl) ?_
  refine l_x rfl (x_extract rfl rfl) ?_
  refine l_x rfl (x_as rfl) ?_
  refine l_x rfl (x_as rfl) ?_
  refine l_x rfl (x_as rfl) ?_
  refine l_nil ?_
  refine r_seq ?_
  refine r_region ?_
  refine l_x rfl (x_load rfl (ld_blks (S40.blk 0 rfl) Tryz.isAgg25 Tryz.sizeOf25 rfl rfl)) ?_
  refine l_x rfl (x_mv rfl) ?_
  refine l_x rfl (x_load rfl (ld_blks (S40.blk 1 rfl) Tryz.isAgg30 Tryz.sizeOf30 rfl rfl)) ?_
  refine l_call [] [] [_, _, _] rfl rfl Tryz.call43 rfl (c_rSure b vm vf day s hs _ (hB.le S40.le)) ?_
  rintro _ w42 ⟨rfl, hl44⟩
  have S43 := S40.step hl44
  refine l_x rfl (x_mv rfl) ?_
  refine l_x rfl (x_extract rfl rfl) ?_
  refine l_x rfl (x_extract rfl rfl) ?_
  refine l_x rfl (x_extract rfl rfl) ?_
  refine l_x rfl (x_as rfl) ?_
  refine l_x rfl (x_as rfl) ?_
  refine l_x rfl (x_as rfl) ?_
  refine l_nil ?_
  refine r_seq ?_
  refine r_region ?_
  refine l_call [] [] [] rfl rfl Tryz.call20 rfl (c_marked _ (hG.le S43.le)) ?_
  rintro _ w45 ⟨rfl, hl47⟩
  have S46 := S43.step hl47
  refine l_x rfl (x_mv rfl) ?_
  refine l_x rfl (x_mv rfl) ?_
  refine l_x rfl (x_mv rfl) ?_
  refine l_x rfl (x_beq Tryz.runUnderlying4 rfl rfl) ?_
  refine l_x rfl (x_pick_t rfl rfl) ?_
  refine l_x rfl (x_mv rfl) ?_
  refine l_split (d := 79) rfl (fun hg79 => ?_) (fun hg79 => ?_)
  · skip
    refine l_x rfl (x_mv rfl) ?_
    refine l_x rfl (x_mv rfl) ?_
    refine l_x rfl (x_eql rfl rfl) ?_
    refine l_x rfl (x_pick_t rfl rfl) ?_
    refine l_x rfl (x_mv rfl) ?_
    refine l_splitd (d := 84) rfl (fun hg84 => ?_) (fun hg84 => ?_)
    · skip
      refine l_x rfl (x_mv rfl) ?_
      refine l_x rfl (x_mv rfl) ?_
      refine l_x rfl (x_eql rfl rfl) ?_
      refine l_x rfl (x_pick_t rfl rfl) ?_
      refine l_x rfl (x_mv rfl) ?_
      refine l_splitd (d := 89) rfl (fun hg89 => ?_) (fun hg89 => ?_)
      · skip
        refine l_x rfl (x_mv rfl) ?_
        refine l_x rfl (x_mv rfl) ?_
        refine l_call [] [] [_, _] rfl rfl Tryz.call31 rfl ((c_SameInts _ _ _ _ (by have := ownersOf_len (b := b) (day := day) (t := s); omega) _ (vec_rd (S46.at 2 rfl)) (vec_rd (S46.at 3 rfl))).mono (fun v w' h => (⟨h.1.trans (congrArg Value.bool (decide_eq_true rfl)), h.2⟩ : v = .bool true ∧ Le _ w'))) ?_
        rintro _ w48 ⟨rfl, hl50⟩
        have S49 := S46.step hl50
        refine l_x rfl (x_pick_t rfl rfl) ?_
        refine l_x rfl (x_mv rfl) ?_
        refine l_x rfl (x_mv rfl) ?_
        refine l_x rfl (x_mv rfl) ?_
        refine l_x rfl (x_eql rfl rfl) ?_
        refine l_x rfl (x_pick_t rfl rfl) ?_
        refine l_x rfl (x_mv rfl) ?_
        refine l_splitd (d := 99) rfl (fun hg99 => ?_) (fun hg99 => ?_)
        · skip
          refine l_x rfl (x_mv rfl) ?_
          refine l_x rfl (x_mv rfl) ?_
          refine l_x rfl (x_beq Tryz.runUnderlying4 rfl rfl) ?_
          refine l_x rfl (x_pick_t rfl rfl) ?_
          refine l_x rfl (x_mv rfl) ?_
          refine l_split (d := 104) rfl (fun hg104 => ?_) (fun hg104 => ?_)
          · skip
            refine l_x rfl (x_mv rfl) ?_
            refine l_x rfl (x_mv rfl) ?_
            refine l_x rfl (x_eql rfl rfl) ?_
            refine l_x rfl (x_pick_t rfl rfl) ?_
            refine l_x rfl (x_as rfl) ?_
            refine l_nil ?_
            refine r_ret (rs := [.tmp 8]) [_] Tryz.func9 rfl ⟨rfl, trivial⟩ ?_
            exact ⟨by first | exact congrArg Value.bool (decide_eq_true rfl) | rfl, S49.le⟩
          exact absurd hg104 (by simp)
        exact absurd rfl hg99
      exact absurd rfl hg89
    exact absurd rfl hg84
  exact absurd hg79 (by simp)

end Go.Proofs
