/- Texts joined for claims: LChecks. -/
import Derived.Test.YtdikpjkdbgfoaaaGreatK699b4bda3a
import Derived.Test.YtdikpjkdbgfoaaaGreatKf341d88362
import Derived.Test.YtdikpjkdbgfoaaaGreatKe16561df6c
/-
  Contracts of functions of the program: each by symbolic execution of its text.
-/
namespace Go.Proofs
open Go Go.Vk Go.Vk.Flow

open Go.Vk.Deed

set_option maxHeartbeats 4000000 in
/-- couchant/couchantlaw02.DeedChecks. -/
theorem lawChecks (rs : List Rw) (vl : Value) (a : Rw) (w : World) (hD : DsR 26 3 w vl rs) (hA : SubR 3 w a) :
    Cl Tryz.prog 8 #[vl, .agg (encD a).toArray] w fun v w' => v = .bool true ∧ Le w w' := by
  refine fn_of_run (args := [_, _]) 72 Tryz.func8 rfl rfl rfl fun cs => ?_
  have S := Own.start (X := nob) w
  refine r_seq ?_
  refine r_region ?_
  refine l_box S rfl rfl ?_
  intro b4 w1 S2 hl3
  refine l_x rfl (x_as rfl) ?_
  refine l_nil ?_
  refine r_seq ?_
  refine r_seq ?_
  refine r_region ?_
  refine l_x rfl (x_mv rfl) ?_
  refine l_call [] [] [_] rfl rfl Tryz.call25 rfl (c_few rs _ _ (hD.le S2.le)) ?_
  rintro _ w5 ⟨rfl, hl7⟩
  have S6 := S2.step hl7
  refine l_x rfl (x_not rfl) ?_
  refine l_x rfl (x_mv rfl) ?_
  refine l_split (d := 16) rfl (fun hg16 => ?_) (fun hg16 => ?_)
  · skip
    refine l_pass rfl ?_
    refine l_pass rfl ?_
    refine l_pass rfl ?_
    refine l_x rfl (x_pick_t rfl rfl) ?_
    refine l_nil ?_
    refine r_true rfl ?_
    refine r_seq ?_
    refine r_region ?_
    refine l_call [] [] [] rfl rfl Tryz.call23 rfl (c_enteredX _) ?_
    rintro _ w8 ⟨rfl, hl10⟩
    have S9 := S6.step hl10
    refine l_x rfl (x_as rfl) ?_
    refine l_nil ?_
    refine r_ret (rs := [.tmp 4]) [_] Tryz.func8 rfl ⟨rfl, trivial⟩ ?_
    exact ⟨by first | rfl | exact congrArg Value.bool (decide_eq_true rfl), S9.le⟩
  refine l_x rfl (x_load rfl (ld_blks (S6.blk 0 rfl) Tryz.isAgg26 Tryz.sizeOf26 rfl rfl)) ?_
  refine l_call [] [] [_] rfl rfl Tryz.call26 rfl (c_plain a _ (hA.le S6.le)) ?_
  rintro _ w11 ⟨rfl, hl13⟩
  have S12 := S6.step hl13
  refine l_x rfl (x_not rfl) ?_
  refine l_x rfl (x_pick_f rfl rfl) ?_
  refine l_nil ?_
  refine r_if rfl (fun hc20 => ?_) (fun hc20 => ?_)
  · skip
    refine r_seq ?_
    refine r_region ?_
    refine l_call [] [] [] rfl rfl Tryz.call23 rfl (c_enteredX _) ?_
    rintro _ w14 ⟨rfl, hl16⟩
    have S15 := S12.step hl16
    refine l_x rfl (x_as rfl) ?_
    refine l_nil ?_
    refine r_ret (rs := [.tmp 4]) [_] Tryz.func8 rfl ⟨rfl, trivial⟩ ?_
    exact ⟨by first | rfl | exact congrArg Value.bool (decide_eq_true rfl), S15.le⟩
  refine r_skip ?_
  refine r_seq ?_
  refine r_region ?_
  refine l_x rfl (x_mv rfl) ?_
  refine l_call [] [] [_] rfl rfl Tryz.call21 rfl (c_Check rs _ _ (hD.le S12.le)) ?_
  rintro _ w17 ⟨rfl, hl19⟩
  have S18 := S12.step hl19
  refine l_x rfl (x_mv rfl) ?_
  refine l_x rfl (x_extract rfl rfl) ?_
  refine l_x rfl (x_extract rfl rfl) ?_
  refine l_x rfl (x_as rfl) ?_
  refine l_x rfl (x_as rfl) ?_
  refine l_nil ?_
  refine r_seq ?_
  refine r_region ?_
  refine l_x rfl (x_mv rfl) ?_
  refine l_call [] [] [_] rfl rfl Tryz.call22 rfl (c_rCheck rs _ _ (hD.le S18.le)) ?_
  rintro _ w20 ⟨rfl, hl22⟩
  have S21 := S18.step hl22
  refine l_x rfl (x_mv rfl) ?_
  refine l_x rfl (x_extract rfl rfl) ?_
  refine l_x rfl (x_extract rfl rfl) ?_
  refine l_x rfl (x_as rfl) ?_
  refine l_x rfl (x_as rfl) ?_
  refine l_nil ?_
  refine r_seq ?_
  refine r_region ?_
  refine l_x rfl (x_mv rfl) ?_
  refine l_x rfl (x_load rfl (ld_blks (S21.blk 0 rfl) Tryz.isAgg26 Tryz.sizeOf26 rfl rfl)) ?_
  refine l_call [] [] [_, _] rfl rfl Tryz.call42 rfl (c_Append rs vl a _ (hD.le S21.le) (hA.le S21.le)) ?_
  rintro _ w23 ⟨s1, rs1, e1, rfl, he1, hrs1, h25⟩
  have S24 := S21.join h25
  refine l_x rfl (x_mv rfl) ?_
  refine l_x rfl (x_extract rfl rfl) ?_
  refine l_x rfl (x_extract rfl rfl) ?_
  refine l_x rfl (x_as rfl) ?_
  refine l_x rfl (x_as rfl) ?_
  refine l_nil ?_
  refine r_seq ?_
  refine r_region ?_
  refine l_x rfl (x_mv rfl) ?_
  refine l_x rfl (x_load rfl (ld_blks (S24.blk 0 rfl) Tryz.isAgg26 Tryz.sizeOf26 rfl rfl)) ?_
  refine l_call [] [] [_, _] rfl rfl Tryz.call45 rfl (c_rAppend rs vl a _ (hD.le S24.le) (hA.le S24.le)) ?_
  rintro _ w26 ⟨s2, rs2, e2, rfl, he2, hrs2, hor, hN2, hl2⟩
  have S27 := S24.add hl2 hN2
  refine l_x rfl (x_mv rfl) ?_
  refine l_x rfl (x_extract rfl rfl) ?_
  refine l_x rfl (x_extract rfl rfl) ?_
  refine l_x rfl (x_as rfl) ?_
  refine l_x rfl (x_as rfl) ?_
  refine l_nil ?_
  refine r_seq ?_
  have hf1 := appFormed hrs1
  have hn1 := appLen hrs1
  refine r_drawR 29 Tryz.mixed (by kernel_rfl) ?_
  refine wd_call [] [] [] rfl rfl Tryz.call23 rfl (fun w1 h1 => c_enteredX _) ?_
  refine w_x rfl (fun w1 h1 => x_mv rfl) ?_
  refine w_x rfl (fun w1 h1 => x_mv rfl) ?_
  refine w_x rfl (fun w1 h1 => x_mv rfl) ?_
  refine w_x rfl (fun w1 h1 => x_eql rfl rfl) ?_
  refine w_x rfl (fun w1 h1 => x_pick_t rfl rfl) ?_
  refine w_x rfl (fun w1 h1 => x_mv rfl) ?_
  refine w_splitd (d := 50) rfl (fun hg50 => ?_) (fun hg50 => ?_)
  · skip
    refine w_x rfl (fun w1 h1 => x_mv rfl) ?_
    refine w_x rfl (fun w1 h1 => x_mv rfl) ?_
    refine w_x rfl (fun w1 h1 => x_eql rfl rfl) ?_
    refine w_x rfl (fun w1 h1 => x_pick_t rfl rfl) ?_
    refine w_x rfl (fun w1 h1 => x_mv rfl) ?_
    refine w_splitd (d := 55) rfl (fun hg55 => ?_) (fun hg55 => ?_)
    · skip
      refine w_x rfl (fun w1 h1 => x_mv rfl) ?_
      refine w_x rfl (fun w1 h1 => x_mv rfl) ?_
      refine w_x rfl (fun w1 h1 => x_eql rfl rfl) ?_
      refine w_x rfl (fun w1 h1 => x_pick_t rfl rfl) ?_
      refine w_x rfl (fun w1 h1 => x_mv rfl) ?_
      refine w_splitd (d := 60) rfl (fun hg60 => ?_) (fun hg60 => ?_)
      · skip
        refine w_x rfl (fun w1 h1 => x_mv rfl) ?_
        refine w_x rfl (fun w1 h1 => x_mv rfl) ?_
        refine wd_call [] [] [_, _] rfl rfl Tryz.call46 rfl (fun w1 h1 => (c_SameDeeds rs1 rs2 s1 s2 _ (dnest_dsr (((S27.step h1)).at 1 rfl) (((S27.step h1)).at 2 rfl) (fun a ha => by have := lens_of hf1 a ha; omega) (by omega)) (dsr_or hD hA hor ((S27.step h1)).le (vec_rd (((S27.step h1)).at 3 rfl)))).mono (fun v w' h => (⟨h.1.trans (congrArg Value.bool (decide_eq_true (hrs1.trans hrs2.symm))), h.2⟩ : v = .bool true ∧ Le _ w'))) ?_
        refine w_x rfl (fun w1 h1 => x_pick_t rfl rfl) ?_
        refine w_x rfl (fun w1 h1 => x_mv rfl) ?_
        refine w_x rfl (fun w1 h1 => x_load rfl (ld_blks ((S27.step h1).blk 0 rfl) Tryz.isAgg26 Tryz.sizeOf26 rfl rfl)) ?_
        refine wd_call [] [] [_] rfl rfl Tryz.call47 rfl (fun w1 h1 => c_CheckDeed a _ (hA.le (S27.step h1).le)) ?_
        refine w_x rfl (fun w1 h1 => x_load rfl (ld_blks ((S27.step h1).blk 0 rfl) Tryz.isAgg26 Tryz.sizeOf26 rfl rfl)) ?_
        refine wd_call [] [] [_] rfl rfl Tryz.call48 rfl (fun w1 h1 => c_rCheckDeed a _ (hA.le (S27.step h1).le)) ?_
        refine w_x rfl (fun w1 h1 => x_eql rfl rfl) ?_
        refine w_x rfl (fun w1 h1 => x_pick_t rfl rfl) ?_
        refine w_x rfl (fun w1 h1 => x_as rfl) ?_
        refine w_nil ?_
        intro w28 hl29
        have S30 := S27.step hl29
        refine l_nil ?_
        refine r_ret (rs := [.tmp 4]) [_] Tryz.func8 rfl ⟨rfl, trivial⟩ ?_
        exact ⟨by first | rfl | exact congrArg Value.bool (decide_eq_true rfl), S30.le⟩
      exact absurd (he1.trans he2.symm) hg60
    exact absurd rfl hg55
  exact absurd rfl hg50

end Go.Proofs
