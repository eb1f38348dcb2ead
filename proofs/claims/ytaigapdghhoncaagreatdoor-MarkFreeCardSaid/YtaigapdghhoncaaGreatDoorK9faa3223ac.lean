/- Texts joined for claims: LFree. -/
import Derived.Test.YtaigapdghhoncaaGreatDoorK8a0fe47e94
import Derived.Test.YtaigapdghhoncaaGreatDoorK4937e3a03b
set_option linter.unusedVariables false
set_option linter.unusedSimpArgs false
set_option linter.unusedSectionVars false
/-
  Contracts of functions of the program: each by symbolic execution of its text.
-/
namespace Go.Proofs
open Go Go.Vk Go.Vk.Flow

open Go.Vk.Mark
open Go.Vk.Deed (i64 rng rng_iff owners sumI sumI_cons sumI_snoc)

set_option maxHeartbeats 4000000 in
/-- couchant/couchantlaw03.MarkFree. -/
theorem lawFree (b : Sm) (vm vf : Value) (day : Int) (w : World) (hB : SmR 39 41 w vm vf b) (hG : Gl w) :
    Cl Tryz.prog 3 #[.agg #[vm, vf], Value.int .i64 day] w fun v w' => v = .bool true ∧ Le w w' := by
  have hlm := hB.lm
  have hlf := hB.lf
  refine fn_of_run (args := [_, _]) 36 Tryz.func3 rfl rfl rfl fun cs => ?_
  have S := Own.start (X := nob) w
  refine r_seq ?_
  refine r_region ?_
  refine l_box S rfl rfl ?_
  intro b4 w1 S2 hl3
  refine l_x rfl (x_as rfl) ?_
  refine l_nil ?_
  refine r_seq ?_
  refine r_seq ?_
  refine r_region ?_
  refine l_x rfl (x_load rfl (ld_blks (S2.blk 0 rfl) Tryz.isAgg25 Tryz.sizeOf25 rfl rfl)) ?_
  refine l_call [] [] [_, _, _] rfl rfl Tryz.call19 rfl (c_few b vm vf _ _ _ _ _ (hB.le S2.le) rd_nil rd_nil) ?_
  rintro _ w5 ⟨q105, rfl, hl105⟩
  have S6 := S2.step hl105
  refine l_x rfl (x_not rfl) ?_
  refine l_nil ?_
  refine r_if rfl (fun hc11 => ?_) (fun hc11 => ?_)
  · skip
    refine r_seq ?_
    refine r_region ?_
    refine l_call [] [] [] rfl rfl Tryz.call20 rfl (c_marked _ (hG.le S6.le)) ?_
    rintro _ w7 ⟨rfl, hl9⟩
    have S8 := S6.step hl9
    refine l_x rfl (x_as rfl) ?_
    refine l_nil ?_
    refine r_ret (rs := [.tmp 4]) [_] Tryz.func3 rfl ⟨rfl, trivial⟩ ?_
    exact ⟨rfl, S8.le⟩
  refine r_skip ?_
  refine r_seq ?_
  refine r_region ?_
  refine l_x rfl (x_load rfl (ld_blks (S6.blk 0 rfl) Tryz.isAgg25 Tryz.sizeOf25 rfl rfl)) ?_
  refine l_x rfl (x_mv rfl) ?_
  refine l_call [] [] [_, _] rfl rfl Tryz.call21 rfl (c_Free b vm vf day _ (hB.le S6.le)) ?_
  rintro _ w10 (⟨x1, hx1, rfl, hqx1, hl1610⟩ | ⟨n1, rfl, ho1, hf1, hl1610⟩ | ⟨rfl, ho1, hf1, hl1610⟩)
  · skip
    have S11 := S6.step hl1610
    refine l_x rfl (x_mv rfl) ?_
    refine l_x rfl (x_extract rfl rfl) ?_
    refine l_x rfl (x_extract rfl rfl) ?_
    refine l_alloc S11 rfl Tryz.zeroValue30 rfl ?_
    intro b15 w12 S13 hl14
    refine l_stores (vs := [_, _, _, _, _, _]) S13 1 rfl rfl rfl rfl (ones_cons rfl (ones_cons rfl (ones_cons rfl (ones_cons rfl (ones_cons rfl (ones_cons rfl ones_nil)))))) Tryz.sizeOf30 (by first | exact Nat.le_refl _ | simp) (splice_all rfl) ?_
    intro w16 S17 hk18
    refine l_x rfl (x_as rfl) ?_
    refine l_nil ?_
    refine r_seq ?_
    refine r_region ?_
    refine l_x rfl (x_load rfl (ld_blks (S17.blk 0 rfl) Tryz.isAgg25 Tryz.sizeOf25 rfl rfl)) ?_
    refine l_x rfl (x_mv rfl) ?_
    refine l_call [] [] [_, _] rfl rfl Tryz.call22 rfl (c_rFree b vm vf day _ (hB.le S17.le)) ?_
    rintro _ w19 (⟨x2, hx2, rfl, hqx2, hl2219⟩ | ⟨n2, rfl, ho2, hf2, hl2219⟩ | ⟨rfl, ho2, hf2, hl2219⟩)
    · skip
      have S20 := S17.step hl2219
      refine l_x rfl (x_mv rfl) ?_
      refine l_x rfl (x_extract rfl rfl) ?_
      refine l_x rfl (x_extract rfl rfl) ?_
      refine l_alloc S20 rfl Tryz.zeroValue30 rfl ?_
      intro b24 w21 S22 hl23
      refine l_stores (vs := [_, _, _, _, _, _]) S22 2 rfl rfl rfl rfl (ones_cons rfl (ones_cons rfl (ones_cons rfl (ones_cons rfl (ones_cons rfl (ones_cons rfl ones_nil)))))) Tryz.sizeOf30 (by first | exact Nat.le_refl _ | simp) (splice_all rfl) ?_
      intro w25 S26 hk27
      refine l_x rfl (x_as rfl) ?_
      refine l_nil ?_
      refine r_seq ?_
      refine r_region ?_
      refine l_call [] [] [] rfl rfl Tryz.call20 rfl (c_marked _ (hG.le S26.le)) ?_
      rintro _ w28 ⟨rfl, hl30⟩
      have S29 := S26.step hl30
      refine l_x rfl (x_mv rfl) ?_
      refine l_x rfl (x_load rfl (ld_blks (S29.blk 1 rfl) Tryz.isAgg30 Tryz.sizeOf30 rfl rfl)) ?_
      refine l_x rfl (x_load rfl (ld_blks (S29.blk 2 rfl) Tryz.isAgg30 Tryz.sizeOf30 rfl rfl)) ?_
      refine l_x rfl (x_eqS keySi (by first | exact ex_zok | exact sgOf_clr.ok) (by first | exact ex_zok | exact sgOf_clr.ok) rfl rfl) ?_
      refine l_x rfl (x_pick_t rfl rfl) ?_
      refine l_x rfl (x_mv rfl) ?_
      refine l_splitd (d := 31) rfl (fun hg31 => ?_) (fun hg31 => ?_)
      · skip
        refine l_x rfl (x_mv rfl) ?_
        refine l_x rfl (x_mv rfl) ?_
        refine l_x rfl (x_eql rfl rfl) ?_
        refine l_x rfl (x_pick_t rfl rfl) ?_
        refine l_x rfl (x_as rfl) ?_
        refine l_nil ?_
        refine r_ret (rs := [.tmp 4]) [_] Tryz.func3 rfl ⟨rfl, trivial⟩ ?_
        exact ⟨congrArg Value.bool (decide_eq_true (hqx1.trans hqx2.symm)), S29.le⟩
      exact absurd rfl hg31
    · exact absurd (hqx1.trans ho2) hx1
    exact absurd (hqx1.trans ho2) hx1
  · skip
    have S31 := S6.step hl1610
    refine l_x rfl (x_mv rfl) ?_
    refine l_x rfl (x_extract rfl rfl) ?_
    refine l_x rfl (x_extract rfl rfl) ?_
    refine l_alloc S31 rfl Tryz.zeroValue30 rfl ?_
    intro b35 w32 S33 hl34
    refine l_stores (vs := [_, _, _, _, _, _]) S33 1 rfl rfl rfl rfl (ones_cons rfl (ones_cons rfl (ones_cons rfl (ones_cons rfl (ones_cons rfl (ones_cons rfl ones_nil)))))) Tryz.sizeOf30 (by first | exact Nat.le_refl _ | simp) (splice_all rfl) ?_
    intro w36 S37 hk38
    refine l_x rfl (x_as rfl) ?_
    refine l_nil ?_
    refine r_seq ?_
    refine r_region ?_
    refine l_x rfl (x_load rfl (ld_blks (S37.blk 0 rfl) Tryz.isAgg25 Tryz.sizeOf25 rfl rfl)) ?_
    refine l_x rfl (x_mv rfl) ?_
    refine l_call [] [] [_, _] rfl rfl Tryz.call22 rfl (c_rFree b vm vf day _ (hB.le S37.le)) ?_
    rintro _ w39 (⟨x2, hx2, rfl, hqx2, hl2239⟩ | ⟨n2, rfl, ho2, hf2, hl2239⟩ | ⟨rfl, ho2, hf2, hl2239⟩)
    · exact absurd (hqx2.trans ho1) hx2
    · skip
      have hi2239 := Option.some.inj (hf1.symm.trans hf2)
      subst hi2239
      have S40 := S37.step hl2239
      refine l_x rfl (x_mv rfl) ?_
      refine l_x rfl (x_extract rfl rfl) ?_
      refine l_x rfl (x_extract rfl rfl) ?_
      refine l_alloc S40 rfl Tryz.zeroValue30 rfl ?_
      intro b44 w41 S42 hl43
      refine l_stores (vs := [_, _, _, _, _, _]) S42 2 rfl rfl rfl rfl (ones_cons rfl (ones_cons rfl (ones_cons rfl (ones_cons rfl (ones_cons rfl (ones_cons rfl ones_nil)))))) Tryz.sizeOf30 (by first | exact Nat.le_refl _ | simp) (splice_all rfl) ?_
      intro w45 S46 hk47
      refine l_x rfl (x_as rfl) ?_
      refine l_nil ?_
      refine r_seq ?_
      refine r_region ?_
      refine l_call [] [] [] rfl rfl Tryz.call20 rfl (c_marked _ (hG.le S46.le)) ?_
      rintro _ w48 ⟨rfl, hl50⟩
      have S49 := S46.step hl50
      refine l_x rfl (x_mv rfl) ?_
      refine l_x rfl (x_load rfl (ld_blks (S49.blk 1 rfl) Tryz.isAgg30 Tryz.sizeOf30 rfl rfl)) ?_
      refine l_x rfl (x_load rfl (ld_blks (S49.blk 2 rfl) Tryz.isAgg30 Tryz.sizeOf30 rfl rfl)) ?_
      refine l_x rfl (x_eqS keySi (by first | exact ex_zok | exact sgOf_clr.ok) (by first | exact ex_zok | exact sgOf_clr.ok) rfl rfl) ?_
      refine l_x rfl (x_pick_t rfl rfl) ?_
      refine l_x rfl (x_mv rfl) ?_
      refine l_splitd (d := 31) rfl (fun hg31 => ?_) (fun hg31 => ?_)
      · skip
        refine l_x rfl (x_mv rfl) ?_
        refine l_x rfl (x_mv rfl) ?_
        refine l_x rfl (x_eql rfl rfl) ?_
        refine l_x rfl (x_pick_t rfl rfl) ?_
        refine l_x rfl (x_as rfl) ?_
        refine l_nil ?_
        refine r_ret (rs := [.tmp 4]) [_] Tryz.func3 rfl ⟨rfl, trivial⟩ ?_
        exact ⟨congrArg Value.bool (decide_eq_true rfl), S49.le⟩
      exact absurd rfl hg31
    rw [hf1] at hf2; cases hf2
  have S51 := S6.step hl1610
  refine l_x rfl (x_mv rfl) ?_
  refine l_x rfl (x_extract rfl rfl) ?_
  refine l_x rfl (x_extract rfl rfl) ?_
  refine l_alloc S51 rfl Tryz.zeroValue30 rfl ?_
  intro b55 w52 S53 hl54
  refine l_stores (vs := [_, _, _, _, _, _]) S53 1 rfl rfl rfl rfl (ones_cons rfl (ones_cons rfl (ones_cons rfl (ones_cons rfl (ones_cons rfl (ones_cons rfl ones_nil)))))) Tryz.sizeOf30 (by first | exact Nat.le_refl _ | simp) (splice_all rfl) ?_
  intro w56 S57 hk58
  refine l_x rfl (x_as rfl) ?_
  refine l_nil ?_
  refine r_seq ?_
  refine r_region ?_
  refine l_x rfl (x_load rfl (ld_blks (S57.blk 0 rfl) Tryz.isAgg25 Tryz.sizeOf25 rfl rfl)) ?_
  refine l_x rfl (x_mv rfl) ?_
  refine l_call [] [] [_, _] rfl rfl Tryz.call22 rfl (c_rFree b vm vf day _ (hB.le S57.le)) ?_
  rintro _ w59 (⟨x2, hx2, rfl, hqx2, hl2259⟩ | ⟨n2, rfl, ho2, hf2, hl2259⟩ | ⟨rfl, ho2, hf2, hl2259⟩)
  · exact absurd (hqx2.trans ho1) hx2
  · rw [hf1] at hf2; cases hf2
  have S60 := S57.step hl2259
  refine l_x rfl (x_mv rfl) ?_
  refine l_x rfl (x_extract rfl rfl) ?_
  refine l_x rfl (x_extract rfl rfl) ?_
  refine l_alloc S60 rfl Tryz.zeroValue30 rfl ?_
  intro b64 w61 S62 hl63
  refine l_stores (vs := [_, _, _, _, _, _]) S62 2 rfl rfl rfl rfl (ones_cons rfl (ones_cons rfl (ones_cons rfl (ones_cons rfl (ones_cons rfl (ones_cons rfl ones_nil)))))) Tryz.sizeOf30 (by first | exact Nat.le_refl _ | simp) (splice_all rfl) ?_
  intro w65 S66 hk67
  refine l_x rfl (x_as rfl) ?_
  refine l_nil ?_
  refine r_seq ?_
  refine r_region ?_
  refine l_call [] [] [] rfl rfl Tryz.call20 rfl (c_marked _ (hG.le S66.le)) ?_
  rintro _ w68 ⟨rfl, hl70⟩
  have S69 := S66.step hl70
  refine l_x rfl (x_mv rfl) ?_
  refine l_x rfl (x_load rfl (ld_blks (S69.blk 1 rfl) Tryz.isAgg30 Tryz.sizeOf30 rfl rfl)) ?_
  refine l_x rfl (x_load rfl (ld_blks (S69.blk 2 rfl) Tryz.isAgg30 Tryz.sizeOf30 rfl rfl)) ?_
  refine l_x rfl (x_eqS keySi (by first | exact ex_zok | exact sgOf_clr.ok) (by first | exact ex_zok | exact sgOf_clr.ok) rfl rfl) ?_
  refine l_x rfl (x_pick_t rfl rfl) ?_
  refine l_x rfl (x_mv rfl) ?_
  refine l_splitd (d := 31) rfl (fun hg31 => ?_) (fun hg31 => ?_)
  · skip
    refine l_x rfl (x_mv rfl) ?_
    refine l_x rfl (x_mv rfl) ?_
    refine l_x rfl (x_eql rfl rfl) ?_
    refine l_x rfl (x_pick_t rfl rfl) ?_
    refine l_x rfl (x_as rfl) ?_
    refine l_nil ?_
    refine r_ret (rs := [.tmp 4]) [_] Tryz.func3 rfl ⟨rfl, trivial⟩ ?_
    exact ⟨congrArg Value.bool (decide_eq_true rfl), S69.le⟩
  exact absurd rfl hg31

end Go.Proofs
