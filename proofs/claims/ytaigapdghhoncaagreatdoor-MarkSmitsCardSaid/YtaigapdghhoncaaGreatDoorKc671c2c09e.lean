/- Texts joined for claims: LSmits. -/
import Derived.Test.YtaigapdghhoncaaGreatDoorK8a0fe47e94
import Derived.Test.YtaigapdghhoncaaGreatDoorK4937e3a03b
set_option linter.unusedVariables false
set_option linter.unusedSimpArgs false
set_option linter.unusedSectionVars false
/-
  Contracts of functions of the program: each by symbolic execution of its text.
-/
namespace Go.Proofs
open Go Go.Vk Go.Vk.Flow

open Go.Vk.Mark
open Go.Vk.Deed (i64 rng rng_iff owners sumI sumI_cons sumI_snoc)

set_option maxHeartbeats 4000000 in
/-- couchant/couchantlaw03.MarkSmits. -/
theorem lawSmits (b : Sm) (vm vf : Value) (day o : Int) (w : World) (hB : SmR 39 41 w vm vf b) (hG : Gl w) :
    Cl Tryz.prog 8 #[.agg #[vm, vf], Value.int .i64 day, Value.int .i64 o] w fun v w' => v = .bool true ∧ Le w w' := by
  have hlm := hB.lm
  have hlf := hB.lf
  refine fn_of_run (args := [_, _, _]) 80 Tryz.func8 rfl rfl rfl fun cs => ?_
  have S := Own.start (X := nob) w
  refine r_seq ?_
  refine r_region ?_
  refine l_box S rfl rfl ?_
  intro b4 w1 S2 hl3
  refine l_x rfl (x_as rfl) ?_
  refine l_nil ?_
  refine r_seq ?_
  refine r_seq ?_
  refine r_region ?_
  refine l_x rfl (x_fieldAddr rfl Tryz.runUnderlying25 rfl Tryz.sizeOf22 (by decide)) ?_
  refine l_x rfl (x_load rfl (ld_blk (S2.blk 0 rfl) Tryz.isAgg22 rfl)) ?_
  refine l_x rfl (x_len (hB.m.le S2.le) rfl Tryz.runUnderlying22) ?_
  refine l_x rfl (x_gtr rfl rfl) ?_
  refine l_x rfl (x_mv rfl) ?_
  refine l_splitd (d := 19) rfl (fun hg19 => ?_) (fun hg19 => ?_)
  · skip
    refine l_pass rfl ?_
    refine l_pass rfl ?_
    refine l_pass rfl ?_
    refine l_pass rfl ?_
    refine l_x rfl (x_pick_t rfl rfl) ?_
    refine l_nil ?_
    refine r_true rfl ?_
    refine r_seq ?_
    refine r_region ?_
    refine l_call [] [] [] rfl rfl Tryz.call20 rfl (c_marked _ (hG.le S2.le)) ?_
    rintro _ w5 ⟨rfl, hl7⟩
    have S6 := S2.step hl7
    refine l_x rfl (x_as rfl) ?_
    refine l_nil ?_
    refine r_ret (rs := [.tmp 6]) [_] Tryz.func8 rfl ⟨rfl, trivial⟩ ?_
    exact ⟨by first | exact congrArg Value.bool (decide_eq_true rfl) | rfl, S6.le⟩
  refine l_x rfl (x_fieldAddr rfl Tryz.runUnderlying25 rfl Tryz.sizeOf23 (by decide)) ?_
  refine l_x rfl (x_load rfl (ld_blk (S2.blk 0 rfl) Tryz.isAgg23 rfl)) ?_
  refine l_x rfl (x_len (hB.f.le S2.le) rfl Tryz.runUnderlying23) ?_
  refine l_x rfl (x_gtr rfl rfl) ?_
  refine l_x rfl (x_pick_f rfl rfl) ?_
  refine l_nil ?_
  refine r_ifd rfl (fun hc24 => ?_) (fun hc24 => ?_)
  · skip
    refine r_seq ?_
    refine r_region ?_
    refine l_call [] [] [] rfl rfl Tryz.call20 rfl (c_marked _ (hG.le S2.le)) ?_
    rintro _ w8 ⟨rfl, hl10⟩
    have S9 := S2.step hl10
    refine l_x rfl (x_as rfl) ?_
    refine l_nil ?_
    refine r_ret (rs := [.tmp 6]) [_] Tryz.func8 rfl ⟨rfl, trivial⟩ ?_
    exact ⟨by first | exact congrArg Value.bool (decide_eq_true rfl) | rfl, S9.le⟩
  refine r_skip ?_
  refine r_seq ?_
  refine r_region ?_
  refine l_x rfl (x_load rfl (ld_blks (S2.blk 0 rfl) Tryz.isAgg25 Tryz.sizeOf25 rfl rfl)) ?_
  refine l_x rfl (x_mv rfl) ?_
  refine l_call [] [] [_, _] rfl rfl Tryz.call32 rfl (c_InForce b vm vf day _ (hB.le S2.le)) ?_
  rintro _ w11 (⟨x1, hx1, rfl, hqx1, hl2911⟩ | ⟨s1, rfl, ho1, hN2911, hl2911⟩)
  · skip
    have S12 := S2.step hl2911
    refine l_x rfl (x_mv rfl) ?_
    refine l_x rfl (x_extract rfl rfl) ?_
    refine l_x rfl (x_extract rfl rfl) ?_
    refine l_x rfl (x_as rfl) ?_
    refine l_x rfl (x_as rfl) ?_
    refine l_nil ?_
    refine r_seq ?_
    refine r_region ?_
    refine l_x rfl (x_load rfl (ld_blks (S12.blk 0 rfl) Tryz.isAgg25 Tryz.sizeOf25 rfl rfl)) ?_
    refine l_x rfl (x_mv rfl) ?_
    refine l_call [] [] [_, _] rfl rfl Tryz.call34 rfl (c_rInForce b vm vf day _ (hB.le S12.le)) ?_
    rintro _ w13 (⟨x2, hx2, rfl, hqx2, hl3513⟩ | ⟨s2, rfl, ho2, hN3513, hl3513⟩)
    · skip
      have S14 := S12.step hl3513
      refine l_x rfl (x_mv rfl) ?_
      refine l_x rfl (x_extract rfl rfl) ?_
      refine l_x rfl (x_extract rfl rfl) ?_
      refine l_x rfl (x_as rfl) ?_
      refine l_x rfl (x_as rfl) ?_
      refine l_nil ?_
      refine r_seq ?_
      refine r_region ?_
      refine l_x rfl (x_load rfl (ld_blks (S14.blk 0 rfl) Tryz.isAgg25 Tryz.sizeOf25 rfl rfl)) ?_
      refine l_x rfl (x_mv rfl) ?_
      refine l_x rfl (x_mv rfl) ?_
      refine l_call [] [] [_, _, _] rfl rfl Tryz.call35 rfl (c_MarkOf b vm vf day o _ (hB.le S14.le)) ?_
      rintro _ w15 ⟨rfl, hl17⟩
      have S16 := S14.step hl17
      refine l_x rfl (x_mv rfl) ?_
      refine l_x rfl (x_extract rfl rfl) ?_
      refine l_x rfl (x_extract rfl rfl) ?_
      refine l_alloc S16 rfl Tryz.zeroValue39 rfl ?_
      intro b21 w18 S19 hl20
      refine l_stores (vs := [_, _, _, _, _, _, _, _, _]) S19 1 rfl rfl rfl rfl (ones_cons rfl (ones_cons rfl (ones_cons rfl (ones_cons rfl (ones_cons rfl (ones_cons rfl (ones_cons rfl (ones_cons rfl (ones_cons rfl ones_nil))))))))) Tryz.sizeOf39 (by first | exact Nat.le_refl _ | simp) (splice_all rfl) ?_
      intro w22 S23 hk24
      refine l_x rfl (x_as rfl) ?_
      refine l_nil ?_
      refine r_seq ?_
      refine r_region ?_
      refine l_x rfl (x_load rfl (ld_blks (S23.blk 0 rfl) Tryz.isAgg25 Tryz.sizeOf25 rfl rfl)) ?_
      refine l_x rfl (x_mv rfl) ?_
      refine l_x rfl (x_mv rfl) ?_
      refine l_call [] [] [_, _, _] rfl rfl Tryz.call36 rfl (c_rMarkOf b vm vf day o _ (hB.le S23.le)) ?_
      rintro _ w25 ⟨rfl, hl27⟩
      have S26 := S23.step hl27
      refine l_x rfl (x_mv rfl) ?_
      refine l_x rfl (x_extract rfl rfl) ?_
      refine l_x rfl (x_extract rfl rfl) ?_
      refine l_alloc S26 rfl Tryz.zeroValue39 rfl ?_
      intro b31 w28 S29 hl30
      refine l_stores (vs := [_, _, _, _, _, _, _, _, _]) S29 2 rfl rfl rfl rfl (ones_cons rfl (ones_cons rfl (ones_cons rfl (ones_cons rfl (ones_cons rfl (ones_cons rfl (ones_cons rfl (ones_cons rfl (ones_cons rfl ones_nil))))))))) Tryz.sizeOf39 (by first | exact Nat.le_refl _ | simp) (splice_all rfl) ?_
      intro w32 S33 hk34
      refine l_x rfl (x_as rfl) ?_
      refine l_nil ?_
      refine r_seq ?_
      refine r_drawR 29 Tryz.mixed (by kernel_rfl) ?_
      refine wd_call [] [] [] rfl rfl Tryz.call20 rfl (fun w1 h1 => c_marked _ (hG.le (S33.step h1).le)) ?_
      refine w_x rfl (fun w1 h1 => x_mv rfl) ?_
      refine w_x rfl (fun w1 h1 => x_mv rfl) ?_
      refine w_x rfl (fun w1 h1 => x_mv rfl) ?_
      refine w_x rfl (fun w1 h1 => x_eql rfl rfl) ?_
      refine w_x rfl (fun w1 h1 => x_pick_t rfl rfl) ?_
      refine w_x rfl (fun w1 h1 => x_mv rfl) ?_
      refine w_splitd (d := 58) rfl (fun hg58 => ?_) (fun hg58 => ?_)
      · skip
        refine w_x rfl (fun w1 h1 => x_mv rfl) ?_
        refine w_x rfl (fun w1 h1 => x_mv rfl) ?_
        refine w_x rfl (fun w1 h1 => x_eql rfl rfl) ?_
        refine w_x rfl (fun w1 h1 => x_pick_t rfl rfl) ?_
        refine w_x rfl (fun w1 h1 => x_mv rfl) ?_
        refine w_splitd (d := 63) rfl (fun hg63 => ?_) (fun hg63 => ?_)
        · skip
          refine w_x rfl (fun w1 h1 => x_load rfl (ld_blks ((S33.step h1).blk 1 rfl) Tryz.isAgg39 Tryz.sizeOf39 rfl rfl)) ?_
          refine w_x rfl (fun w1 h1 => x_load rfl (ld_blks ((S33.step h1).blk 2 rfl) Tryz.isAgg39 Tryz.sizeOf39 rfl rfl)) ?_
          refine w_x rfl (fun w1 h1 => x_eqS keyMk (mkV_ok hB.om) (mkV_ok hB.om) rfl rfl) ?_
          refine w_x rfl (fun w1 h1 => x_pick_t rfl rfl) ?_
          refine w_x rfl (fun w1 h1 => x_mv rfl) ?_
          refine w_splitd (d := 68) rfl (fun hg68 => ?_) (fun hg68 => ?_)
          · skip
            refine w_x rfl (fun w1 h1 => x_mv rfl) ?_
            refine w_x rfl (fun w1 h1 => x_mv rfl) ?_
            refine wd_call [] [] [_, _] rfl rfl Tryz.call37 rfl (fun w1 h1 => (c_SameMarks _ _ _ _ (by decide) (by simp) (by simp) _ rd_nil rd_nil).mono (fun v w' h => (⟨h.1.trans (congrArg Value.bool (decide_eq_true rfl)), h.2⟩ : v = .bool true ∧ Le _ w'))) ?_
            refine w_x rfl (fun w1 h1 => x_pick_t rfl rfl) ?_
            refine w_x rfl (fun w1 h1 => x_mv rfl) ?_
            refine w_x rfl (fun w1 h1 => x_load rfl (ld_blks ((S33.step h1).blk 0 rfl) Tryz.isAgg25 Tryz.sizeOf25 rfl rfl)) ?_
            refine wd_call [] [] [_] rfl rfl Tryz.call24 rfl (fun w1 h1 => c_CheckSmits b vm vf _ (hB.le (S33.step h1).le)) ?_
            refine w_x rfl (fun w1 h1 => x_load rfl (ld_blks ((S33.step h1).blk 0 rfl) Tryz.isAgg25 Tryz.sizeOf25 rfl rfl)) ?_
            refine wd_call [] [] [_] rfl rfl Tryz.call38 rfl (fun w1 h1 => c_rCheck b vm vf _ (hB.le (S33.step h1).le)) ?_
            refine w_x rfl (fun w1 h1 => x_eql rfl rfl) ?_
            refine w_x rfl (fun w1 h1 => x_pick_t rfl rfl) ?_
            refine w_x rfl (fun w1 h1 => x_as rfl) ?_
            refine w_nil ?_
            intro w35 hl36
            have S37 := S33.step hl36
            refine l_nil ?_
            refine r_ret (rs := [.tmp 6]) [_] Tryz.func8 rfl ⟨rfl, trivial⟩ ?_
            exact ⟨by first | exact congrArg Value.bool (decide_eq_true rfl) | rfl, S37.le⟩
          exact absurd rfl hg68
        exact absurd rfl hg63
      exact absurd (hqx1.trans hqx2.symm) hg58
    exact absurd (hqx1.trans ho2) hx1
  have S38 := S2.add hl2911 hN2911
  refine l_x rfl (x_mv rfl) ?_
  refine l_x rfl (x_extract rfl rfl) ?_
  refine l_x rfl (x_extract rfl rfl) ?_
  refine l_x rfl (x_as rfl) ?_
  refine l_x rfl (x_as rfl) ?_
  refine l_nil ?_
  refine r_seq ?_
  refine r_region ?_
  refine l_x rfl (x_load rfl (ld_blks (S38.blk 0 rfl) Tryz.isAgg25 Tryz.sizeOf25 rfl rfl)) ?_
  refine l_x rfl (x_mv rfl) ?_
  refine l_call [] [] [_, _] rfl rfl Tryz.call34 rfl (c_rInForce b vm vf day _ (hB.le S38.le)) ?_
  rintro _ w39 (⟨x2, hx2, rfl, hqx2, hl3539⟩ | ⟨s2, rfl, ho2, hN3539, hl3539⟩)
  · exact absurd (hqx2.trans ho1) hx2
  have S40 := S38.add hl3539 hN3539
  refine l_x rfl (x_mv rfl) ?_
  refine l_x rfl (x_extract rfl rfl) ?_
  refine l_x rfl (x_extract rfl rfl) ?_
  refine l_x rfl (x_as rfl) ?_
  refine l_x rfl (x_as rfl) ?_
  refine l_nil ?_
  refine r_seq ?_
  refine r_region ?_
  refine l_x rfl (x_load rfl (ld_blks (S40.blk 0 rfl) Tryz.isAgg25 Tryz.sizeOf25 rfl rfl)) ?_
  refine l_x rfl (x_mv rfl) ?_
  refine l_x rfl (x_mv rfl) ?_
  refine l_call [] [] [_, _, _] rfl rfl Tryz.call35 rfl (c_MarkOf b vm vf day o _ (hB.le S40.le)) ?_
  rintro _ w41 ⟨rfl, hl43⟩
  have S42 := S40.step hl43
  refine l_x rfl (x_mv rfl) ?_
  refine l_x rfl (x_extract rfl rfl) ?_
  refine l_x rfl (x_extract rfl rfl) ?_
  refine l_alloc S42 rfl Tryz.zeroValue39 rfl ?_
  intro b47 w44 S45 hl46
  refine l_stores (vs := [_, _, _, _, _, _, _, _, _]) S45 3 rfl rfl rfl rfl (ones_cons rfl (ones_cons rfl (ones_cons rfl (ones_cons rfl (ones_cons rfl (ones_cons rfl (ones_cons rfl (ones_cons rfl (ones_cons rfl ones_nil))))))))) Tryz.sizeOf39 (by first | exact Nat.le_refl _ | simp) (splice_all rfl) ?_
  intro w48 S49 hk50
  refine l_x rfl (x_as rfl) ?_
  refine l_nil ?_
  refine r_seq ?_
  refine r_region ?_
  refine l_x rfl (x_load rfl (ld_blks (S49.blk 0 rfl) Tryz.isAgg25 Tryz.sizeOf25 rfl rfl)) ?_
  refine l_x rfl (x_mv rfl) ?_
  refine l_x rfl (x_mv rfl) ?_
  refine l_call [] [] [_, _, _] rfl rfl Tryz.call36 rfl (c_rMarkOf b vm vf day o _ (hB.le S49.le)) ?_
  rintro _ w51 ⟨rfl, hl53⟩
  have S52 := S49.step hl53
  refine l_x rfl (x_mv rfl) ?_
  refine l_x rfl (x_extract rfl rfl) ?_
  refine l_x rfl (x_extract rfl rfl) ?_
  refine l_alloc S52 rfl Tryz.zeroValue39 rfl ?_
  intro b57 w54 S55 hl56
  refine l_stores (vs := [_, _, _, _, _, _, _, _, _]) S55 4 rfl rfl rfl rfl (ones_cons rfl (ones_cons rfl (ones_cons rfl (ones_cons rfl (ones_cons rfl (ones_cons rfl (ones_cons rfl (ones_cons rfl (ones_cons rfl ones_nil))))))))) Tryz.sizeOf39 (by first | exact Nat.le_refl _ | simp) (splice_all rfl) ?_
  intro w58 S59 hk60
  refine l_x rfl (x_as rfl) ?_
  refine l_nil ?_
  refine r_seq ?_
  refine r_drawR 29 Tryz.mixed (by kernel_rfl) ?_
  refine wd_call [] [] [] rfl rfl Tryz.call20 rfl (fun w1 h1 => c_marked _ (hG.le (S59.step h1).le)) ?_
  refine w_x rfl (fun w1 h1 => x_mv rfl) ?_
  refine w_x rfl (fun w1 h1 => x_mv rfl) ?_
  refine w_x rfl (fun w1 h1 => x_mv rfl) ?_
  refine w_x rfl (fun w1 h1 => x_eql rfl rfl) ?_
  refine w_x rfl (fun w1 h1 => x_pick_t rfl rfl) ?_
  refine w_x rfl (fun w1 h1 => x_mv rfl) ?_
  refine w_splitd (d := 58) rfl (fun hg58 => ?_) (fun hg58 => ?_)
  · skip
    refine w_x rfl (fun w1 h1 => x_mv rfl) ?_
    refine w_x rfl (fun w1 h1 => x_mv rfl) ?_
    refine w_x rfl (fun w1 h1 => x_eql rfl rfl) ?_
    refine w_x rfl (fun w1 h1 => x_pick_t rfl rfl) ?_
    refine w_x rfl (fun w1 h1 => x_mv rfl) ?_
    refine w_splitd (d := 63) rfl (fun hg63 => ?_) (fun hg63 => ?_)
    · skip
      refine w_x rfl (fun w1 h1 => x_load rfl (ld_blks ((S59.step h1).blk 3 rfl) Tryz.isAgg39 Tryz.sizeOf39 rfl rfl)) ?_
      refine w_x rfl (fun w1 h1 => x_load rfl (ld_blks ((S59.step h1).blk 4 rfl) Tryz.isAgg39 Tryz.sizeOf39 rfl rfl)) ?_
      refine w_x rfl (fun w1 h1 => x_eqS keyMk (mkV_ok hB.om) (mkV_ok hB.om) rfl rfl) ?_
      refine w_x rfl (fun w1 h1 => x_pick_t rfl rfl) ?_
      refine w_x rfl (fun w1 h1 => x_mv rfl) ?_
      refine w_splitd (d := 68) rfl (fun hg68 => ?_) (fun hg68 => ?_)
      · skip
        refine w_x rfl (fun w1 h1 => x_mv rfl) ?_
        refine w_x rfl (fun w1 h1 => x_mv rfl) ?_
        refine wd_call [] [] [_, _] rfl rfl Tryz.call37 rfl (fun w1 h1 => (c_SameMarks _ _ _ _ (by have := force_len9 ho1; omega) (force_ok hB.om) (force_ok hB.om) _ (vec_rd ((S59.step h1).at 1 rfl)) (vec_rd ((S59.step h1).at 2 rfl))).mono (fun v w' h => (⟨h.1.trans (congrArg Value.bool (decide_eq_true rfl)), h.2⟩ : v = .bool true ∧ Le _ w'))) ?_
        refine w_x rfl (fun w1 h1 => x_pick_t rfl rfl) ?_
        refine w_x rfl (fun w1 h1 => x_mv rfl) ?_
        refine w_x rfl (fun w1 h1 => x_load rfl (ld_blks ((S59.step h1).blk 0 rfl) Tryz.isAgg25 Tryz.sizeOf25 rfl rfl)) ?_
        refine wd_call [] [] [_] rfl rfl Tryz.call24 rfl (fun w1 h1 => c_CheckSmits b vm vf _ (hB.le (S59.step h1).le)) ?_
        refine w_x rfl (fun w1 h1 => x_load rfl (ld_blks ((S59.step h1).blk 0 rfl) Tryz.isAgg25 Tryz.sizeOf25 rfl rfl)) ?_
        refine wd_call [] [] [_] rfl rfl Tryz.call38 rfl (fun w1 h1 => c_rCheck b vm vf _ (hB.le (S59.step h1).le)) ?_
        refine w_x rfl (fun w1 h1 => x_eql rfl rfl) ?_
        refine w_x rfl (fun w1 h1 => x_pick_t rfl rfl) ?_
        refine w_x rfl (fun w1 h1 => x_as rfl) ?_
        refine w_nil ?_
        intro w61 hl62
        have S63 := S59.step hl62
        refine l_nil ?_
        refine r_ret (rs := [.tmp 6]) [_] Tryz.func8 rfl ⟨rfl, trivial⟩ ?_
        exact ⟨by first | exact congrArg Value.bool (decide_eq_true rfl) | rfl, S63.le⟩
      exact absurd rfl hg68
    exact absurd rfl hg63
  exact absurd rfl hg58

end Go.Proofs
