/- Texts joined for claims: LShort. -/
import Derived.Test.YtaigapdghhoncaaGreatDoorK743e18f617
import Derived.Test.YtaigapdghhoncaaGreatDoorKb2abcaddc9
set_option linter.unusedVariables false
set_option linter.unusedSimpArgs false
set_option linter.unusedSectionVars false
namespace Go.Proofs
open Go Go.Vk Go.Vk.Flow

open Go.Vk.Mark
open Go.Vk.Deed (i64 rng rng_iff owners sumI sumI_cons sumI_snoc)
open Go.Vk.Deed (cmpI)

theorem c_CheckR (b : Sm) (vm vf : Value) (day : Int) (found : List Sg) (vs : Value) (cs9 : List Clm) (vq : Value) (hm : found.length ≤ 9223372036854775807) (hmc : cs9.length ≤ 9223372036854775807) (hsg : ∀ t ∈ found, SgOk t) (cz : List Clm) (hb : beginE b day true found cs9 = 0) (hp : cz.Perm cs9) (hs : SortedL (fun x y : Clm => cmpI x.owner y.owner) cz) (os : List Int) (vo : Value)  (w : World) (hB : SmR 39 41 w vm vf b) (hF : Rd ESG w vs found) (hC : Rd ECL w vq cs9) (hO : Rd EI w vo os) : Cl Tryz.prog 46 #[.agg #[vm, vf], Value.int .i64 day, vs, vq, vo] w fun v w' => v = .tuple #[.bool (ckB (fs b day found) cs9 os), .int .i64 0] ∧ Le w w' :=
 (c_CheckK b vm vf day found vs cs9 vq hm hmc hsg cz hb hp hs os vo w hB hF hC hO).mono fun v w' h => by
  have e : ckS cz os (shP cz (cnz b day found cz) (2 ^ cz.length)) = ckB (fs b day found) cs9 os := ck_ref (two_of hb hp hs)
  rw [e] at h; exact h

set_option maxHeartbeats 4000000 in
theorem lawShort (b : Sm) (vm vf : Value) (day : Int) (found : List Sg) (vs : Value) (cs9 : List Clm) (vq : Value) (hm : found.length ≤ 9223372036854775807) (hmc : cs9.length ≤ 9223372036854775807) (hsg : ∀ t ∈ found, SgOk t) (os : List Int) (vo : Value) (hmo : os.length ≤ 9223372036854775807) (w : World) (hB : SmR 39 41 w vm vf b) (hG : Gl w) (hF : Rd ESG w vs found) (hC : Rd ECL w vq cs9) (hO : Rd EI w vo os) :
  Cl Tryz.prog 10 #[.agg #[vm, vf], Value.int .i64 day, vs, vq, vo] w fun v w' => v = .bool true ∧ Le w w' := by
 have hlm := hB.lm
 have hlf := hB.lf
 refine fn_of_run (args := [_, _, _, _, _]) 94 Tryz.func10 rfl rfl rfl fun cs => ?_
 have S := Own.start (X := nob) w
 refine r_seq ?_
 refine r_region ?_
 refine l_box S rfl rfl ?_
 intro b4 w1 S2 hl3
 refine l_a rfl ?_
 refine l_nil ?_
 refine r_seq ?_
 refine r_seq ?_
 refine r_region ?_
 refine l_x rfl (x_load rfl (ld_blks (S2.blk 0 rfl) Tryz.isAgg25 Tryz.sizeOf25 rfl rfl)) ?_
 refine l_m rfl ?_
 refine l_m rfl ?_
 refine l_call [] [] [_, _, _] rfl rfl Tryz.call19 rfl (c_few b vm vf _ _ _ _ _ (hB.le S2.le) (hF.le S2.le) (hC.le S2.le)) ?_
 rintro _ w5 ⟨q245, rfl, hl245⟩
 have S6 := S2.step hl245
 refine l_x rfl (x_not rfl) ?_
 refine l_m rfl ?_
 refine l_split (d := 26) rfl (fun hg26 => ?_) (fun hg26 => ?_)
 ·skip
  refine l_pass rfl ?_
  refine l_pass rfl ?_
  refine l_pass rfl ?_
  refine l_x rfl (x_pick_t rfl rfl) ?_
  refine l_nil ?_
  refine r_true rfl ?_
  refine r_seq ?_
  refine r_region ?_
  refine l_call [] [] [] rfl rfl Tryz.call20 rfl (c_marked _ (hG.le S6.le)) ?_
  rintro _ w7 ⟨rfl, hl9⟩
  have S8 := S6.step hl9
  refine l_a rfl ?_
  refine l_nil ?_
  refine r_ret (rs := [.tmp 10]) [_] Tryz.func10 rfl ⟨rfl, trivial⟩ ?_
  exact ⟨by first | rfl | exact congrArg Value.bool (decide_eq_true rfl), S8.le⟩
 refine l_m rfl ?_
 refine l_x rfl (x_len (hO.le S6.le) rfl Tryz.runUnderlying52) ?_
 refine l_x rfl (x_gtr rfl rfl) ?_
 refine l_x rfl (x_pick_f rfl rfl) ?_
 refine l_nil ?_
 refine r_ifd rfl (fun hc30 => ?_) (fun hc30 => ?_)
 ·skip
  refine r_seq ?_
  refine r_region ?_
  refine l_call [] [] [] rfl rfl Tryz.call20 rfl (c_marked _ (hG.le S6.le)) ?_
  rintro _ w10 ⟨rfl, hl12⟩
  have S11 := S6.step hl12
  refine l_a rfl ?_
  refine l_nil ?_
  refine r_ret (rs := [.tmp 10]) [_] Tryz.func10 rfl ⟨rfl, trivial⟩ ?_
  exact ⟨by first | rfl | exact congrArg Value.bool (decide_eq_true rfl), S11.le⟩
 refine r_skip ?_
 refine r_seq ?_
 refine r_region ?_
 refine l_x rfl (x_load rfl (ld_blks (S6.blk 0 rfl) Tryz.isAgg25 Tryz.sizeOf25 rfl rfl)) ?_
 refine l_m rfl ?_
 refine l_m rfl ?_
 refine l_m rfl ?_
 refine l_call [] [] [_, _, _, _] rfl rfl Tryz.call44 rfl (c_Shortage b vm vf day found vs cs9 vq hm hmc hsg _ (hB.le S6.le) (hF.le S6.le) (hC.le S6.le)) ?_
 rintro _ w13 (⟨e9, hne9, rfl, he9, hl3713⟩ | ⟨cz9, x9, is9, hb9, hp9, hs9, rfl, his9, hN3713, hl3713⟩)
 ·skip
  have S14 := S6.step hl3713
  refine l_m rfl ?_
  refine l_x rfl (x_extract rfl rfl) ?_
  refine l_x rfl (x_extract rfl rfl) ?_
  refine l_x rfl (x_extract rfl rfl) ?_
  refine l_a rfl ?_
  refine l_a rfl ?_
  refine l_a rfl ?_
  refine l_nil ?_
  refine r_seq ?_
  refine r_region ?_
  refine l_x rfl (x_load rfl (ld_blks (S14.blk 0 rfl) Tryz.isAgg25 Tryz.sizeOf25 rfl rfl)) ?_
  refine l_m rfl ?_
  refine l_m rfl ?_
  refine l_m rfl ?_
  refine l_call [] [] [_, _, _, _] rfl rfl Tryz.call45 rfl (c_rShortage b vm vf day found vs cs9 vq hm hmc _ (hB.le S14.le) (hF.le S14.le) (hC.le S14.le)) ?_
  rintro _ w15 (⟨f9, hf9, rfl, hfe9, hl4615⟩ | ⟨hb8, y9, rfl, hN4615, hl4615⟩)
  ·skip
   have S16 := S14.step hl4615
   have hee := he9.trans hfe9.symm
   subst hee
   refine l_m rfl ?_
   refine l_x rfl (x_extract rfl rfl) ?_
   refine l_x rfl (x_extract rfl rfl) ?_
   refine l_x rfl (x_extract rfl rfl) ?_
   refine l_a rfl ?_
   refine l_a rfl ?_
   refine l_a rfl ?_
   refine l_nil ?_
   refine r_seq ?_
   refine r_region ?_
   refine l_x rfl (x_load rfl (ld_blks (S16.blk 0 rfl) Tryz.isAgg25 Tryz.sizeOf25 rfl rfl)) ?_
   refine l_m rfl ?_
   refine l_m rfl ?_
   refine l_m rfl ?_
   refine l_m rfl ?_
   refine l_call [] [] [_, _, _, _, _] rfl rfl Tryz.call46 rfl (c_CheckE b vm vf day found vs cs9 vq hm hmc hsg e9 hne9 he9 os vo _ (hB.le S16.le) (hF.le S16.le) (hC.le S16.le) (hO.le S16.le)) ?_
   rintro _ w17 ⟨rfl, hl5617⟩
   have S18 := S16.step hl5617
   refine l_m rfl ?_
   refine l_x rfl (x_extract rfl rfl) ?_
   refine l_x rfl (x_extract rfl rfl) ?_
   refine l_a rfl ?_
   refine l_a rfl ?_
   refine l_nil ?_
   refine r_seq ?_
   refine r_region ?_
   refine l_x rfl (x_load rfl (ld_blks (S18.blk 0 rfl) Tryz.isAgg25 Tryz.sizeOf25 rfl rfl)) ?_
   refine l_m rfl ?_
   refine l_m rfl ?_
   refine l_m rfl ?_
   refine l_m rfl ?_
   refine l_call [] [] [_, _, _, _, _] rfl rfl Tryz.call47 rfl (c_rCheckShortage b vm vf day found vs cs9 vq hm hmc os vo (by omega) _ (hB.le S18.le) (hF.le S18.le) (hC.le S18.le) (hO.le S18.le)) ?_
   rintro _ w19 (⟨f8, hf8, rfl, hfe8, hl6519⟩ | ⟨hb7, rfl, hl6519⟩)
   ·skip
    have S20 := S18.step hl6519
    have hee8 := he9.trans hfe8.symm
    subst hee8
    refine l_m rfl ?_
    refine l_x rfl (x_extract rfl rfl) ?_
    refine l_x rfl (x_extract rfl rfl) ?_
    refine l_a rfl ?_
    refine l_a rfl ?_
    refine l_nil ?_
    refine r_seq ?_
    refine r_region ?_
    refine l_call [] [] [] rfl rfl Tryz.call20 rfl (c_marked _ (hG.le S20.le)) ?_
    rintro _ w21 ⟨rfl, hl23⟩
    have S22 := S20.step hl23
    refine l_m rfl ?_
    refine l_m rfl ?_
    refine l_m rfl ?_
    refine l_x rfl (x_beq Tryz.runUnderlying4 rfl rfl) ?_
    refine l_x rfl (x_pick_t rfl rfl) ?_
    refine l_m rfl ?_
    refine l_m rfl ?_
    refine l_m rfl ?_
    refine l_x rfl (x_eql rfl rfl) ?_
    refine l_x rfl (x_pick_t rfl rfl) ?_
    refine l_m rfl ?_
    refine l_splitd (d := 79) rfl (fun hg79 => ?_) (fun hg79 => ?_)
    ·skip
     refine l_m rfl ?_
     refine l_m rfl ?_
     refine l_call [] [] [_, _] rfl rfl Tryz.call31 rfl (c_SameIntsT _ [] _ [] (by decide) rfl _ rd_nil rd_nil) ?_
     rintro _ w24 ⟨rfl, hl26⟩
     have S25 := S22.step hl26
     refine l_x rfl (x_pick_t rfl rfl) ?_
     refine l_m rfl ?_
     refine l_m rfl ?_
     refine l_m rfl ?_
     refine l_x rfl (x_beq Tryz.runUnderlying4 rfl rfl) ?_
     refine l_x rfl (x_pick_t rfl rfl) ?_
     refine l_m rfl ?_
     refine l_m rfl ?_
     refine l_m rfl ?_
     refine l_x rfl (x_eql rfl rfl) ?_
     refine l_x rfl (x_pick_t rfl rfl) ?_
     refine l_a rfl ?_
     refine l_nil ?_
     refine r_ret (rs := [.tmp 10]) [_] Tryz.func10 rfl ⟨rfl, trivial⟩ ?_
     exact ⟨by first | rfl | exact congrArg Value.bool (decide_eq_true rfl), S25.le⟩
    exact absurd rfl hg79
   exact absurd (he9.trans hb7) hne9
  exact absurd (he9.trans hb8) hne9
 have S27 := S6.add hl3713 hN3713
 have hbr9 := best_ref (two_of hb9 hp9 hs9)
 have hbl9 := bestR_len (F := fs b day found) (cq := cs9) (i := 2 ^ cs9.length)
 rw [hbr9] at his9
 refine l_m rfl ?_
 refine l_x rfl (x_extract rfl rfl) ?_
 refine l_x rfl (x_extract rfl rfl) ?_
 refine l_x rfl (x_extract rfl rfl) ?_
 refine l_a rfl ?_
 refine l_a rfl ?_
 refine l_a rfl ?_
 refine l_nil ?_
 refine r_seq ?_
 refine r_region ?_
 refine l_x rfl (x_load rfl (ld_blks (S27.blk 0 rfl) Tryz.isAgg25 Tryz.sizeOf25 rfl rfl)) ?_
 refine l_m rfl ?_
 refine l_m rfl ?_
 refine l_m rfl ?_
 refine l_call [] [] [_, _, _, _] rfl rfl Tryz.call45 rfl (c_rShortage b vm vf day found vs cs9 vq hm hmc _ (hB.le S27.le) (hF.le S27.le) (hC.le S27.le)) ?_
 rintro _ w28 (⟨f9, hf9, rfl, hfe9, hl4628⟩ | ⟨hb8, y9, rfl, hN4628, hl4628⟩)
 ·exact absurd (hfe9.trans hb9) hf9
 have S29 := S27.add hl4628 hN4628
 refine l_m rfl ?_
 refine l_x rfl (x_extract rfl rfl) ?_
 refine l_x rfl (x_extract rfl rfl) ?_
 refine l_x rfl (x_extract rfl rfl) ?_
 refine l_a rfl ?_
 refine l_a rfl ?_
 refine l_a rfl ?_
 refine l_nil ?_
 refine r_seq ?_
 refine r_region ?_
 refine l_x rfl (x_load rfl (ld_blks (S29.blk 0 rfl) Tryz.isAgg25 Tryz.sizeOf25 rfl rfl)) ?_
 refine l_m rfl ?_
 refine l_m rfl ?_
 refine l_m rfl ?_
 refine l_m rfl ?_
 refine l_call [] [] [_, _, _, _, _] rfl rfl Tryz.call46 rfl (c_CheckR b vm vf day found vs cs9 vq hm hmc hsg cz9 hb9 hp9 hs9 os vo _ (hB.le S29.le) (hF.le S29.le) (hC.le S29.le) (hO.le S29.le)) ?_
 rintro _ w30 ⟨rfl, hl5630⟩
 have S31 := S29.step hl5630
 refine l_m rfl ?_
 refine l_x rfl (x_extract rfl rfl) ?_
 refine l_x rfl (x_extract rfl rfl) ?_
 refine l_a rfl ?_
 refine l_a rfl ?_
 refine l_nil ?_
 refine r_seq ?_
 refine r_region ?_
 refine l_x rfl (x_load rfl (ld_blks (S31.blk 0 rfl) Tryz.isAgg25 Tryz.sizeOf25 rfl rfl)) ?_
 refine l_m rfl ?_
 refine l_m rfl ?_
 refine l_m rfl ?_
 refine l_m rfl ?_
 refine l_call [] [] [_, _, _, _, _] rfl rfl Tryz.call47 rfl (c_rCheckShortage b vm vf day found vs cs9 vq hm hmc os vo (by omega) _ (hB.le S31.le) (hF.le S31.le) (hC.le S31.le) (hO.le S31.le)) ?_
 rintro _ w32 (⟨f8, hf8, rfl, hfe8, hl6532⟩ | ⟨hb7, rfl, hl6532⟩)
 ·exact absurd (hfe8.trans hb9) hf8
 have S33 := S31.step hl6532
 refine l_m rfl ?_
 refine l_x rfl (x_extract rfl rfl) ?_
 refine l_x rfl (x_extract rfl rfl) ?_
 refine l_a rfl ?_
 refine l_a rfl ?_
 refine l_nil ?_
 refine r_seq ?_
 refine r_region ?_
 refine l_call [] [] [] rfl rfl Tryz.call20 rfl (c_marked _ (hG.le S33.le)) ?_
 rintro _ w34 ⟨rfl, hl36⟩
 have S35 := S33.step hl36
 refine l_m rfl ?_
 refine l_m rfl ?_
 refine l_m rfl ?_
 refine l_x rfl (x_beq Tryz.runUnderlying4 rfl rfl) ?_
 refine l_x rfl (x_pick_t rfl rfl) ?_
 refine l_m rfl ?_
 refine l_split (d := 74) rfl (fun hg74 => ?_) (fun hg74 => ?_)
 ·skip
  refine l_m rfl ?_
  refine l_m rfl ?_
  refine l_x rfl (x_eql rfl rfl) ?_
  refine l_x rfl (x_pick_t rfl rfl) ?_
  refine l_m rfl ?_
  refine l_splitd (d := 79) rfl (fun hg79 => ?_) (fun hg79 => ?_)
  ·skip
   refine l_m rfl ?_
   refine l_m rfl ?_
   refine l_call [] [] [_, _] rfl rfl Tryz.call31 rfl (c_SameIntsT _ _ _ _ (by omega) (by rw [hbr9]) _ (vec_rd (S35.at 1 rfl)) (vec_rd (S35.at 2 rfl))) ?_
   rintro _ w37 ⟨rfl, hl39⟩
   have S38 := S35.step hl39
   refine l_x rfl (x_pick_t rfl rfl) ?_
   refine l_m rfl ?_
   refine l_m rfl ?_
   refine l_m rfl ?_
   refine l_x rfl (x_beq Tryz.runUnderlying4 rfl rfl) ?_
   refine l_x rfl (x_pick_t rfl rfl) ?_
   refine l_m rfl ?_
   refine l_split (d := 89) rfl (fun hg89 => ?_) (fun hg89 => ?_)
   ·skip
    refine l_m rfl ?_
    refine l_m rfl ?_
    refine l_x rfl (x_eql rfl rfl) ?_
    refine l_x rfl (x_pick_t rfl rfl) ?_
    refine l_a rfl ?_
    refine l_nil ?_
    refine r_ret (rs := [.tmp 10]) [_] Tryz.func10 rfl ⟨rfl, trivial⟩ ?_
    exact ⟨by first | rfl | exact congrArg Value.bool (decide_eq_true rfl), S38.le⟩
   exact absurd hg89 (by simp)
  exact absurd rfl hg79
 exact absurd (beq_iff_eq.2 his9) (by rw [hg74]; decide)

end Go.Proofs
