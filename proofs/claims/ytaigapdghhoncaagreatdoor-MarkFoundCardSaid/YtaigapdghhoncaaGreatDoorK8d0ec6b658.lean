/- Texts joined for claims: LFound. -/
import Derived.Test.YtaigapdghhoncaaGreatDoorKc606a93e82
import Derived.Test.YtaigapdghhoncaaGreatDoorK4b60dada0e
set_option linter.unusedVariables false
set_option linter.unusedSimpArgs false
set_option linter.unusedSectionVars false
namespace Go.Proofs
open Go Go.Vk Go.Vk.Flow

open Go.Vk.Mark
open Go.Vk.Deed (i64 rng rng_iff owners sumI sumI_cons sumI_snoc)

theorem pk_grs {w : World} {v : Value} {rs : List Gw} {ns : List Rsc} (h : (pack [vec EGR v rs, pack ns]).ok w) (hg : GOwn 3 rs ns) : GrsR 91 3 w v rs :=
 gown_rd (h.1 _ (by simp)) (h.1 _ (by simp)) hg
theorem gp_len {b : Sm} {day : Int} {l : List Sg} (h : gpE b day l = 0) : l.length ≤ 60 := bench_len (gpE_begin.trans h)
theorem nil_grs {w : World} : GrsR 91 3 w (.slice none 0 0) [] := ⟨rd_nil, fun _ h => by cases h⟩

set_option maxHeartbeats 4000000 in
theorem lawFound (b : Sm) (vm vf : Value) (day : Int) (l : List Sg) (vs : Value) (o : Int) (hm : l.length ≤ 9223372036854775807) (hs : ∀ t ∈ l, SgOk t) (w : World) (hB : SmR 39 41 w vm vf b) (hG : Gl w) (hF : Rd ESG w vs l) :
  Cl Tryz.prog 16 #[.agg #[vm, vf], Value.int .i64 day, vs, Value.int .i64 o] w fun v w' => v = .bool true ∧ Le w w' := by
 have hlm := hB.lm
 have hlf := hB.lf
 refine fn_of_run (args := [_, _, _, _]) 82 Tryz.func16 rfl rfl rfl fun cs => ?_
 have S := Own.start (X := nob) w
 refine r_seq ?_
 refine r_region ?_
 refine l_box S rfl rfl ?_
 intro b4 w1 S2 hl3
 refine l_a rfl ?_
 refine l_nil ?_
 refine r_seq ?_
 refine r_seq ?_
 refine r_region ?_
 refine l_x rfl (x_load rfl (ld_blks (S2.blk 0 rfl) Tryz.isAgg25 Tryz.sizeOf25 rfl rfl)) ?_
 refine l_m rfl ?_
 refine l_call [] [] [_, _, _] rfl rfl Tryz.call19 rfl (c_few b vm vf _ _ _ _ _ (hB.le S2.le) (hF.le S2.le) rd_nil) ?_
 rintro _ w5 ⟨q215, rfl, hl215⟩
 have S6 := S2.step hl215
 refine l_x rfl (x_not rfl) ?_
 refine l_nil ?_
 refine r_if rfl (fun hc22 => ?_) (fun hc22 => ?_)
 ·skip
  refine r_seq ?_
  refine r_region ?_
  refine l_call [] [] [] rfl rfl Tryz.call20 rfl (c_marked _ (hG.le S6.le)) ?_
  rintro _ w7 ⟨rfl, hl9⟩
  have S8 := S6.step hl9
  refine l_a rfl ?_
  refine l_nil ?_
  refine r_ret (rs := [.tmp 8]) [_] Tryz.func16 rfl ⟨rfl, trivial⟩ ?_
  exact ⟨by first | rfl | exact congrArg Value.bool (decide_eq_true rfl), S8.le⟩
 refine r_skip ?_
 refine r_seq ?_
 refine r_region ?_
 refine l_x rfl (x_load rfl (ld_blks (S6.blk 0 rfl) Tryz.isAgg25 Tryz.sizeOf25 rfl rfl)) ?_
 refine l_m rfl ?_
 refine l_m rfl ?_
 refine l_m rfl ?_
 refine l_call [] [] [_, _, _, _] rfl rfl Tryz.call58 rfl (c_Range b vm vf day l vs o (by omega) hs _ (hB.le S6.le) (hF.le S6.le)) ?_
 rintro _ w10 (⟨e9, hne9, rfl, he9, hl2910⟩ | ⟨rfl, hr9, hl2910⟩)
 ·skip
  have S11 := S6.step hl2910
  refine l_m rfl ?_
  refine l_x rfl (x_extract rfl rfl) ?_
  refine l_x rfl (x_extract rfl rfl) ?_
  refine l_x rfl (x_extract rfl rfl) ?_
  refine l_a rfl ?_
  refine l_a rfl ?_
  refine l_a rfl ?_
  refine l_nil ?_
  refine r_seq ?_
  refine r_region ?_
  refine l_x rfl (x_load rfl (ld_blks (S11.blk 0 rfl) Tryz.isAgg25 Tryz.sizeOf25 rfl rfl)) ?_
  refine l_m rfl ?_
  refine l_m rfl ?_
  refine l_m rfl ?_
  refine l_call [] [] [_, _, _, _] rfl rfl Tryz.call59 rfl (c_rRange b vm vf day l vs o (by omega) _ (hB.le S11.le) (hF.le S11.le)) ?_
  rintro _ w12 (⟨f9, hf9, rfl, hfe9, hl3812⟩ | ⟨rfl, hr8, hl3812⟩)
  ·skip
   have S13 := S11.step hl3812
   have hee := he9.trans hfe9.symm
   subst hee
   refine l_m rfl ?_
   refine l_x rfl (x_extract rfl rfl) ?_
   refine l_x rfl (x_extract rfl rfl) ?_
   refine l_x rfl (x_extract rfl rfl) ?_
   refine l_a rfl ?_
   refine l_a rfl ?_
   refine l_a rfl ?_
   refine l_nil ?_
   refine r_seq ?_
   refine r_region ?_
   refine l_x rfl (x_load rfl (ld_blks (S13.blk 0 rfl) Tryz.isAgg25 Tryz.sizeOf25 rfl rfl)) ?_
   refine l_m rfl ?_
   refine l_m rfl ?_
   refine l_call [] [] [_, _, _] rfl rfl Tryz.call60 rfl (c_Groups b vm vf day l vs (by omega) hs _ (hB.le S13.le) (hF.le S13.le)) ?_
   rintro _ w14 (⟨e7, hne7, rfl, he7, hl4614⟩ | ⟨vo7, rs7, ns7, rfl, hg7, hgs7, hgo7, hN4614, hl4614⟩)
   ·skip
    have S15 := S13.step hl4614
    refine l_m rfl ?_
    refine l_x rfl (x_extract rfl rfl) ?_
    refine l_x rfl (x_extract rfl rfl) ?_
    refine l_a rfl ?_
    refine l_a rfl ?_
    refine l_nil ?_
    refine r_seq ?_
    refine r_region ?_
    refine l_x rfl (x_load rfl (ld_blks (S15.blk 0 rfl) Tryz.isAgg25 Tryz.sizeOf25 rfl rfl)) ?_
    refine l_m rfl ?_
    refine l_m rfl ?_
    refine l_call [] [] [_, _, _] rfl rfl Tryz.call61 rfl (c_rGroups b vm vf day l vs (by omega) _ (hB.le S15.le) (hF.le S15.le)) ?_
    rintro _ w16 (⟨f7, hf7, rfl, hfe7, hl5316⟩ | ⟨vo6, rs6, ns6, rfl, hg6, hgs6, hgo6, hN5316, hl5316⟩)
    ·skip
     have S17 := S15.step hl5316
     have hee7 := he7.trans hfe7.symm
     subst hee7
     refine l_m rfl ?_
     refine l_x rfl (x_extract rfl rfl) ?_
     refine l_x rfl (x_extract rfl rfl) ?_
     refine l_a rfl ?_
     refine l_a rfl ?_
     refine l_nil ?_
     refine r_seq ?_
     refine r_region ?_
     refine l_call [] [] [] rfl rfl Tryz.call20 rfl (c_marked _ (hG.le S17.le)) ?_
     rintro _ w18 ⟨rfl, hl20⟩
     have S19 := S17.step hl20
     refine l_m rfl ?_
     refine l_m rfl ?_
     refine l_m rfl ?_
     refine l_x rfl (x_eql rfl rfl) ?_
     refine l_x rfl (x_pick_t rfl rfl) ?_
     refine l_m rfl ?_
     refine l_splitd (d := 62) rfl (fun hg62 => ?_) (fun hg62 => ?_)
     ·skip
      refine l_m rfl ?_
      refine l_m rfl ?_
      refine l_x rfl (x_eql rfl rfl) ?_
      refine l_x rfl (x_pick_t rfl rfl) ?_
      refine l_m rfl ?_
      refine l_splitd (d := 67) rfl (fun hg67 => ?_) (fun hg67 => ?_)
      ·skip
       refine l_m rfl ?_
       refine l_m rfl ?_
       refine l_x rfl (x_eql rfl rfl) ?_
       refine l_x rfl (x_pick_t rfl rfl) ?_
       refine l_m rfl ?_
       refine l_splitd (d := 72) rfl (fun hg72 => ?_) (fun hg72 => ?_)
       ·skip
        refine l_m rfl ?_
        refine l_m rfl ?_
        refine l_x rfl (x_eql rfl rfl) ?_
        refine l_x rfl (x_pick_t rfl rfl) ?_
        refine l_m rfl ?_
        refine l_splitd (d := 77) rfl (fun hg77 => ?_) (fun hg77 => ?_)
        ·skip
         refine l_m rfl ?_
         refine l_m rfl ?_
         refine l_call [] [] [_, _] rfl rfl Tryz.call62 rfl (c_SameGroupsT _ [] _ [] (by decide) (fun _ h => by cases h) rfl _ nil_grs nil_grs) ?_
         rintro _ w21 ⟨rfl, hl23⟩
         have S22 := S19.step hl23
         refine l_x rfl (x_pick_t rfl rfl) ?_
         refine l_a rfl ?_
         refine l_nil ?_
         refine r_ret (rs := [.tmp 8]) [_] Tryz.func16 rfl ⟨rfl, trivial⟩ ?_
         exact ⟨by first | rfl | exact congrArg Value.bool (decide_eq_true rfl), S22.le⟩
        exact absurd rfl hg77
       exact absurd rfl hg72
      exact absurd rfl hg67
     exact absurd rfl hg62
    exact absurd (he7.trans hg6) hne7
   have S24 := S13.add hl4614 hN4614
   have hl60 := gp_len hg7
   refine l_m rfl ?_
   refine l_x rfl (x_extract rfl rfl) ?_
   refine l_x rfl (x_extract rfl rfl) ?_
   refine l_a rfl ?_
   refine l_a rfl ?_
   refine l_nil ?_
   refine r_seq ?_
   refine r_region ?_
   refine l_x rfl (x_load rfl (ld_blks (S24.blk 0 rfl) Tryz.isAgg25 Tryz.sizeOf25 rfl rfl)) ?_
   refine l_m rfl ?_
   refine l_m rfl ?_
   refine l_call [] [] [_, _, _] rfl rfl Tryz.call61 rfl (c_rGroups b vm vf day l vs (by omega) _ (hB.le S24.le) (hF.le S24.le)) ?_
   rintro _ w25 (⟨f7, hf7, rfl, hfe7, hl5325⟩ | ⟨vo6, rs6, ns6, rfl, hg6, hgs6, hgo6, hN5325, hl5325⟩)
   ·exact absurd (hfe7.trans hg7) hf7
   have S26 := S24.add hl5325 hN5325
   have hl60 := gp_len hg6
   refine l_m rfl ?_
   refine l_x rfl (x_extract rfl rfl) ?_
   refine l_x rfl (x_extract rfl rfl) ?_
   refine l_a rfl ?_
   refine l_a rfl ?_
   refine l_nil ?_
   refine r_seq ?_
   refine r_region ?_
   refine l_call [] [] [] rfl rfl Tryz.call20 rfl (c_marked _ (hG.le S26.le)) ?_
   rintro _ w27 ⟨rfl, hl29⟩
   have S28 := S26.step hl29
   refine l_m rfl ?_
   refine l_m rfl ?_
   refine l_m rfl ?_
   refine l_x rfl (x_eql rfl rfl) ?_
   refine l_x rfl (x_pick_t rfl rfl) ?_
   refine l_m rfl ?_
   refine l_splitd (d := 62) rfl (fun hg62 => ?_) (fun hg62 => ?_)
   ·skip
    refine l_m rfl ?_
    refine l_m rfl ?_
    refine l_x rfl (x_eql rfl rfl) ?_
    refine l_x rfl (x_pick_t rfl rfl) ?_
    refine l_m rfl ?_
    refine l_splitd (d := 67) rfl (fun hg67 => ?_) (fun hg67 => ?_)
    ·skip
     refine l_m rfl ?_
     refine l_m rfl ?_
     refine l_x rfl (x_eql rfl rfl) ?_
     refine l_x rfl (x_pick_t rfl rfl) ?_
     refine l_m rfl ?_
     refine l_splitd (d := 72) rfl (fun hg72 => ?_) (fun hg72 => ?_)
     ·skip
      refine l_m rfl ?_
      refine l_m rfl ?_
      refine l_x rfl (x_eql rfl rfl) ?_
      refine l_x rfl (x_pick_t rfl rfl) ?_
      refine l_m rfl ?_
      refine l_splitd (d := 77) rfl (fun hg77 => ?_) (fun hg77 => ?_)
      ·skip
       refine l_m rfl ?_
       refine l_m rfl ?_
       refine l_call [] [] [_, _] rfl rfl Tryz.call62 rfl (c_SameGroupsT _ rs7 _ rs6 (by have := hgs7.len; omega) (fun y hy => by have := hgs6.key hy; omega) (hgs7.done.trans hgs6.done.symm) _ (pk_grs (S28.at 1 rfl) hgo7) (pk_grs (S28.at 2 rfl) hgo6)) ?_
       rintro _ w30 ⟨rfl, hl32⟩
       have S31 := S28.step hl32
       refine l_x rfl (x_pick_t rfl rfl) ?_
       refine l_a rfl ?_
       refine l_nil ?_
       refine r_ret (rs := [.tmp 8]) [_] Tryz.func16 rfl ⟨rfl, trivial⟩ ?_
       exact ⟨by first | rfl | exact congrArg Value.bool (decide_eq_true rfl), S31.le⟩
      exact absurd rfl hg77
     exact absurd rfl hg72
    exact absurd rfl hg67
   exact absurd rfl hg62
  exact absurd (he9.trans hr8) hne9
 have S33 := S6.step hl2910
 refine l_m rfl ?_
 refine l_x rfl (x_extract rfl rfl) ?_
 refine l_x rfl (x_extract rfl rfl) ?_
 refine l_x rfl (x_extract rfl rfl) ?_
 refine l_a rfl ?_
 refine l_a rfl ?_
 refine l_a rfl ?_
 refine l_nil ?_
 refine r_seq ?_
 refine r_region ?_
 refine l_x rfl (x_load rfl (ld_blks (S33.blk 0 rfl) Tryz.isAgg25 Tryz.sizeOf25 rfl rfl)) ?_
 refine l_m rfl ?_
 refine l_m rfl ?_
 refine l_m rfl ?_
 refine l_call [] [] [_, _, _, _] rfl rfl Tryz.call59 rfl (c_rRange b vm vf day l vs o (by omega) _ (hB.le S33.le) (hF.le S33.le)) ?_
 rintro _ w34 (⟨f9, hf9, rfl, hfe9, hl3834⟩ | ⟨rfl, hr8, hl3834⟩)
 ·exact absurd (hfe9.trans hr9) hf9
 have S35 := S33.step hl3834
 refine l_m rfl ?_
 refine l_x rfl (x_extract rfl rfl) ?_
 refine l_x rfl (x_extract rfl rfl) ?_
 refine l_x rfl (x_extract rfl rfl) ?_
 refine l_a rfl ?_
 refine l_a rfl ?_
 refine l_a rfl ?_
 refine l_nil ?_
 refine r_seq ?_
 refine r_region ?_
 refine l_x rfl (x_load rfl (ld_blks (S35.blk 0 rfl) Tryz.isAgg25 Tryz.sizeOf25 rfl rfl)) ?_
 refine l_m rfl ?_
 refine l_m rfl ?_
 refine l_call [] [] [_, _, _] rfl rfl Tryz.call60 rfl (c_Groups b vm vf day l vs (by omega) hs _ (hB.le S35.le) (hF.le S35.le)) ?_
 rintro _ w36 (⟨e7, hne7, rfl, he7, hl4636⟩ | ⟨vo7, rs7, ns7, rfl, hg7, hgs7, hgo7, hN4636, hl4636⟩)
 ·skip
  have S37 := S35.step hl4636
  refine l_m rfl ?_
  refine l_x rfl (x_extract rfl rfl) ?_
  refine l_x rfl (x_extract rfl rfl) ?_
  refine l_a rfl ?_
  refine l_a rfl ?_
  refine l_nil ?_
  refine r_seq ?_
  refine r_region ?_
  refine l_x rfl (x_load rfl (ld_blks (S37.blk 0 rfl) Tryz.isAgg25 Tryz.sizeOf25 rfl rfl)) ?_
  refine l_m rfl ?_
  refine l_m rfl ?_
  refine l_call [] [] [_, _, _] rfl rfl Tryz.call61 rfl (c_rGroups b vm vf day l vs (by omega) _ (hB.le S37.le) (hF.le S37.le)) ?_
  rintro _ w38 (⟨f7, hf7, rfl, hfe7, hl5338⟩ | ⟨vo6, rs6, ns6, rfl, hg6, hgs6, hgo6, hN5338, hl5338⟩)
  ·skip
   have S39 := S37.step hl5338
   have hee7 := he7.trans hfe7.symm
   subst hee7
   refine l_m rfl ?_
   refine l_x rfl (x_extract rfl rfl) ?_
   refine l_x rfl (x_extract rfl rfl) ?_
   refine l_a rfl ?_
   refine l_a rfl ?_
   refine l_nil ?_
   refine r_seq ?_
   refine r_region ?_
   refine l_call [] [] [] rfl rfl Tryz.call20 rfl (c_marked _ (hG.le S39.le)) ?_
   rintro _ w40 ⟨rfl, hl42⟩
   have S41 := S39.step hl42
   refine l_m rfl ?_
   refine l_m rfl ?_
   refine l_m rfl ?_
   refine l_x rfl (x_eql rfl rfl) ?_
   refine l_x rfl (x_pick_t rfl rfl) ?_
   refine l_m rfl ?_
   refine l_splitd (d := 62) rfl (fun hg62 => ?_) (fun hg62 => ?_)
   ·skip
    refine l_m rfl ?_
    refine l_m rfl ?_
    refine l_x rfl (x_eql rfl rfl) ?_
    refine l_x rfl (x_pick_t rfl rfl) ?_
    refine l_m rfl ?_
    refine l_splitd (d := 67) rfl (fun hg67 => ?_) (fun hg67 => ?_)
    ·skip
     refine l_m rfl ?_
     refine l_m rfl ?_
     refine l_x rfl (x_eql rfl rfl) ?_
     refine l_x rfl (x_pick_t rfl rfl) ?_
     refine l_m rfl ?_
     refine l_splitd (d := 72) rfl (fun hg72 => ?_) (fun hg72 => ?_)
     ·skip
      refine l_m rfl ?_
      refine l_m rfl ?_
      refine l_x rfl (x_eql rfl rfl) ?_
      refine l_x rfl (x_pick_t rfl rfl) ?_
      refine l_m rfl ?_
      refine l_splitd (d := 77) rfl (fun hg77 => ?_) (fun hg77 => ?_)
      ·skip
       refine l_m rfl ?_
       refine l_m rfl ?_
       refine l_call [] [] [_, _] rfl rfl Tryz.call62 rfl (c_SameGroupsT _ [] _ [] (by decide) (fun _ h => by cases h) rfl _ nil_grs nil_grs) ?_
       rintro _ w43 ⟨rfl, hl45⟩
       have S44 := S41.step hl45
       refine l_x rfl (x_pick_t rfl rfl) ?_
       refine l_a rfl ?_
       refine l_nil ?_
       refine r_ret (rs := [.tmp 8]) [_] Tryz.func16 rfl ⟨rfl, trivial⟩ ?_
       exact ⟨by first | rfl | exact congrArg Value.bool (decide_eq_true rfl), S44.le⟩
      exact absurd rfl hg77
     exact absurd rfl hg72
    exact absurd rfl hg67
   exact absurd rfl hg62
  exact absurd (he7.trans hg6) hne7
 have S46 := S35.add hl4636 hN4636
 have hl60 := gp_len hg7
 refine l_m rfl ?_
 refine l_x rfl (x_extract rfl rfl) ?_
 refine l_x rfl (x_extract rfl rfl) ?_
 refine l_a rfl ?_
 refine l_a rfl ?_
 refine l_nil ?_
 refine r_seq ?_
 refine r_region ?_
 refine l_x rfl (x_load rfl (ld_blks (S46.blk 0 rfl) Tryz.isAgg25 Tryz.sizeOf25 rfl rfl)) ?_
 refine l_m rfl ?_
 refine l_m rfl ?_
 refine l_call [] [] [_, _, _] rfl rfl Tryz.call61 rfl (c_rGroups b vm vf day l vs (by omega) _ (hB.le S46.le) (hF.le S46.le)) ?_
 rintro _ w47 (⟨f7, hf7, rfl, hfe7, hl5347⟩ | ⟨vo6, rs6, ns6, rfl, hg6, hgs6, hgo6, hN5347, hl5347⟩)
 ·exact absurd (hfe7.trans hg7) hf7
 have S48 := S46.add hl5347 hN5347
 have hl60 := gp_len hg6
 refine l_m rfl ?_
 refine l_x rfl (x_extract rfl rfl) ?_
 refine l_x rfl (x_extract rfl rfl) ?_
 refine l_a rfl ?_
 refine l_a rfl ?_
 refine l_nil ?_
 refine r_seq ?_
 refine r_region ?_
 refine l_call [] [] [] rfl rfl Tryz.call20 rfl (c_marked _ (hG.le S48.le)) ?_
 rintro _ w49 ⟨rfl, hl51⟩
 have S50 := S48.step hl51
 refine l_m rfl ?_
 refine l_m rfl ?_
 refine l_m rfl ?_
 refine l_x rfl (x_eql rfl rfl) ?_
 refine l_x rfl (x_pick_t rfl rfl) ?_
 refine l_m rfl ?_
 refine l_splitd (d := 62) rfl (fun hg62 => ?_) (fun hg62 => ?_)
 ·skip
  refine l_m rfl ?_
  refine l_m rfl ?_
  refine l_x rfl (x_eql rfl rfl) ?_
  refine l_x rfl (x_pick_t rfl rfl) ?_
  refine l_m rfl ?_
  refine l_splitd (d := 67) rfl (fun hg67 => ?_) (fun hg67 => ?_)
  ·skip
   refine l_m rfl ?_
   refine l_m rfl ?_
   refine l_x rfl (x_eql rfl rfl) ?_
   refine l_x rfl (x_pick_t rfl rfl) ?_
   refine l_m rfl ?_
   refine l_splitd (d := 72) rfl (fun hg72 => ?_) (fun hg72 => ?_)
   ·skip
    refine l_m rfl ?_
    refine l_m rfl ?_
    refine l_x rfl (x_eql rfl rfl) ?_
    refine l_x rfl (x_pick_t rfl rfl) ?_
    refine l_m rfl ?_
    refine l_splitd (d := 77) rfl (fun hg77 => ?_) (fun hg77 => ?_)
    ·skip
     refine l_m rfl ?_
     refine l_m rfl ?_
     refine l_call [] [] [_, _] rfl rfl Tryz.call62 rfl (c_SameGroupsT _ rs7 _ rs6 (by have := hgs7.len; omega) (fun y hy => by have := hgs6.key hy; omega) (hgs7.done.trans hgs6.done.symm) _ (pk_grs (S50.at 1 rfl) hgo7) (pk_grs (S50.at 2 rfl) hgo6)) ?_
     rintro _ w52 ⟨rfl, hl54⟩
     have S53 := S50.step hl54
     refine l_x rfl (x_pick_t rfl rfl) ?_
     refine l_a rfl ?_
     refine l_nil ?_
     refine r_ret (rs := [.tmp 8]) [_] Tryz.func16 rfl ⟨rfl, trivial⟩ ?_
     exact ⟨by first | rfl | exact congrArg Value.bool (decide_eq_true rfl), S53.le⟩
    exact absurd rfl hg77
   exact absurd rfl hg72
  exact absurd rfl hg67
 exact absurd rfl hg62

end Go.Proofs
