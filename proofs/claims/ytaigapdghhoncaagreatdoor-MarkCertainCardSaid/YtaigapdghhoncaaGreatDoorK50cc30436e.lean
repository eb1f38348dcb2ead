/- Texts joined for claims: LCertain. -/
import Derived.Test.YtaigapdghhoncaaGreatDoorK483b237776
import Derived.Test.YtaigapdghhoncaaGreatDoorK3f31119afb
import Derived.Test.YtaigapdghhoncaaGreatDoorK0b3004e593
set_option linter.unusedVariables false
set_option linter.unusedSimpArgs false
set_option linter.unusedSectionVars false
namespace Go.Proofs
open Go Go.Vk Go.Vk.Flow

open Go.Vk.Mark
open Go.Vk.Deed (i64 rng rng_iff owners sumI sumI_cons sumI_snoc)
open Go.Vk.Deed (cmpI)

theorem begin_apart9 {b : Sm} {day : Int} {r : Bool} {found : List Sg} {cs : List Clm} (h : beginE b day r found cs = 0) : Apart9 cs := apart_of (claim_ok (begin_parts h).2.2).2.2
theorem most_same {b : Sm} {day o : Int} {found : List Sg} {cs : List Clm} {n m : Nat} (ha : Apart9 cs) (_ : n ≤ found.length) (_ : m ≤ 60) (hn : mostP b day found cs o n = true) (hm : mostP b day found cs o m = true) (h1 : ∀ q : Nat, n < q → q ≤ found.length → mostP b day found cs o q = false) (h2 : ∀ q : Nat, m < q → q ≤ 60 → mostP b day found cs o q = false) (h60 : found.length ≤ 60) : n = m := by
 rcases Nat.lt_trichotomy n m with g | g | g
 ·rw [h1 m g (Nat.le_trans (most_fit ha hm) fit_len)] at hm; cases hm
 ·exact g
 rw [h2 n g (by omega)] at hn; cases hn
theorem bench_cert {b : Sm} {day : Int} {found : List Sg} {cq cz : List Clm} (hb : beginE b day true found cq = 0) (hp : cz.Perm cq) (hs : SortedL (fun x y : Clm => cmpI x.owner y.owner) cz) (hc : canB cz (cnz b day found cz) = true) :
  cert (mks b day found cz) cz (cnz b day found cz) = (List.range found.length).map (crE b day found cq) := by
 have hm : metB (fs b day found) cq = true := (can_cs hb hp).symm.trans hc
 have hbr := bench_ref hb hp hs hm
 have hme := bench_asg hb hp hc
 have haz := apart_perm hp (begin_apart hb)
 have hal : (asg (mks b day found cz) cz (cnz b day found cz)).length = found.length := by rw [asg_len, mks_len]
 refine List.ext_getElem? fun q => ?_
 by_cases g : q < found.length
 ·have ht : found[q]? = some found[q] := List.getElem?_eq_getElem g
  obtain ⟨x, hx⟩ : ∃ x, (asg (mks b day found cz) cz (cnz b day found cz))[q]? = some x := ⟨_, List.getElem?_eq_getElem (by omega)⟩
  obtain ⟨k, hk, htk, hok⟩ := try_of_meet ⟨haz, rfl⟩ mks_lt hme hx (mks_at ht)
  rw [show (cert (mks b day found cz) cz (cnz b day found cz))[q]? = some (certO cz (cnz b day found cz) (mskP cz (ownersOf b day found[q]))) by unfold cert; rw [List.getElem?_map, mks_at ht]; rfl]
  rw [cert_ref haz hk htk hok (fun j hj => by rw [own_succ (List.getElem?_eq_getElem hj)]; exact bench_own hb hp _ (List.getElem_mem hj)) (oth_iff hb hp ht), List.getElem?_map, List.getElem?_range g]
  rw [hbr] at hx
  show _ = some (crE b day found cq q)
  rw [cr_at ht hx]
 rw [List.getElem?_eq_none (by simp [cert, mks]; omega), List.getElem?_eq_none (by simp; omega)]

set_option maxHeartbeats 4000000 in
theorem lawCertain (b : Sm) (vm vf : Value) (day : Int) (found : List Sg) (vs : Value) (cs9 : List Clm) (vq : Value) (hm : found.length ≤ 9223372036854775807) (hmc : cs9.length ≤ 9223372036854775807) (hsg : ∀ t ∈ found, SgOk t) (o : Int) (w : World) (hB : SmR 39 41 w vm vf b) (hG : Gl w) (hF : Rd ESG w vs found) (hC : Rd ECL w vq cs9) :
  Cl Tryz.prog 12 #[.agg #[vm, vf], Value.int .i64 day, vs, vq, Value.int .i64 o] w fun v w' => v = .bool true ∧ Le w w' := by
 have hlm := hB.lm
 have hlf := hB.lf
 refine fn_of_run (args := [_, _, _, _, _]) 80 Tryz.func12 rfl rfl rfl fun cs => ?_
 have S := Own.start (X := nob) w
 refine r_seq ?_
 refine r_region ?_
 refine l_box S rfl rfl ?_
 intro b4 w1 S2 hl3
 refine l_a rfl ?_
 refine l_nil ?_
 refine r_seq ?_
 refine r_seq ?_
 refine r_region ?_
 refine l_x rfl (x_load rfl (ld_blks (S2.blk 0 rfl) Tryz.isAgg25 Tryz.sizeOf25 rfl rfl)) ?_
 refine l_m rfl ?_
 refine l_m rfl ?_
 refine l_call [] [] [_, _, _] rfl rfl Tryz.call19 rfl (c_few b vm vf _ _ _ _ _ (hB.le S2.le) (hF.le S2.le) (hC.le S2.le)) ?_
 rintro _ w5 ⟨q225, rfl, hl225⟩
 have S6 := S2.step hl225
 refine l_x rfl (x_not rfl) ?_
 refine l_nil ?_
 refine r_if rfl (fun hc23 => ?_) (fun hc23 => ?_)
 ·skip
  refine r_seq ?_
  refine r_region ?_
  refine l_call [] [] [] rfl rfl Tryz.call20 rfl (c_marked _ (hG.le S6.le)) ?_
  rintro _ w7 ⟨rfl, hl9⟩
  have S8 := S6.step hl9
  refine l_a rfl ?_
  refine l_nil ?_
  refine r_ret (rs := [.tmp 10]) [_] Tryz.func12 rfl ⟨rfl, trivial⟩ ?_
  exact ⟨by first | rfl | exact congrArg Value.bool (decide_eq_true rfl), S8.le⟩
 refine r_skip ?_
 refine r_seq ?_
 refine r_region ?_
 refine l_x rfl (x_load rfl (ld_blks (S6.blk 0 rfl) Tryz.isAgg25 Tryz.sizeOf25 rfl rfl)) ?_
 refine l_m rfl ?_
 refine l_m rfl ?_
 refine l_m rfl ?_
 refine l_call [] [] [_, _, _, _] rfl rfl Tryz.call48 rfl (c_Certain b vm vf day found vs cs9 vq hm hmc hsg _ (hB.le S6.le) (hF.le S6.le) (hC.le S6.le)) ?_
 rintro _ w10 (⟨e9, hne9, rfl, he9, hl3010⟩ | ⟨cz9, hb9, hp9, hs9, hc9, rfl, hl3010⟩ | ⟨cz9, c9, hb9, hp9, hs9, hc9, rfl, hN3010, hl3010⟩)
 ·skip
  have S11 := S6.step hl3010
  refine l_m rfl ?_
  refine l_x rfl (x_extract rfl rfl) ?_
  refine l_x rfl (x_extract rfl rfl) ?_
  refine l_a rfl ?_
  refine l_a rfl ?_
  refine l_nil ?_
  refine r_seq ?_
  refine r_region ?_
  refine l_x rfl (x_load rfl (ld_blks (S11.blk 0 rfl) Tryz.isAgg25 Tryz.sizeOf25 rfl rfl)) ?_
  refine l_m rfl ?_
  refine l_m rfl ?_
  refine l_m rfl ?_
  refine l_call [] [] [_, _, _, _] rfl rfl Tryz.call50 rfl (c_rCertain b vm vf day found vs cs9 vq hm hmc _ (hB.le S11.le) (hF.le S11.le) (hC.le S11.le)) ?_
  rintro _ w12 (⟨f9, hf9, rfl, hfe9, hl3812⟩ | ⟨hb8, hm8, rfl, hl3812⟩ | ⟨hb8, hm8, y9, rfl, hN3812, hl3812⟩)
  ·skip
   have S13 := S11.step hl3812
   have hee := he9.trans hfe9.symm
   subst hee
   refine l_m rfl ?_
   refine l_x rfl (x_extract rfl rfl) ?_
   refine l_x rfl (x_extract rfl rfl) ?_
   refine l_a rfl ?_
   refine l_a rfl ?_
   refine l_nil ?_
   refine r_seq ?_
   refine r_region ?_
   refine l_x rfl (x_load rfl (ld_blks (S13.blk 0 rfl) Tryz.isAgg25 Tryz.sizeOf25 rfl rfl)) ?_
   refine l_m rfl ?_
   refine l_m rfl ?_
   refine l_m rfl ?_
   refine l_m rfl ?_
   refine l_call [] [] [_, _, _, _, _] rfl rfl Tryz.call51 rfl (c_Most b vm vf day found vs cs9 vq hm hmc hsg o _ (hB.le S13.le) (hF.le S13.le) (hC.le S13.le)) ?_
   rintro _ w14 (⟨e5, hne5, rfl, he5, hl4714⟩ | ⟨hbo5, hten5, rfl, hl4714⟩ | ⟨n5, hbo5, hnt5, hnl5, hP5, hQ5, rfl, hl4714⟩ | ⟨hbo5, hnt5, hQ5, rfl, hl4714⟩)
   ·skip
    have S15 := S13.step hl4714
    refine l_m rfl ?_
    refine l_x rfl (x_extract rfl rfl) ?_
    refine l_x rfl (x_extract rfl rfl) ?_
    refine l_a rfl ?_
    refine l_a rfl ?_
    refine l_nil ?_
    refine r_seq ?_
    refine r_region ?_
    refine l_x rfl (x_load rfl (ld_blks (S15.blk 0 rfl) Tryz.isAgg25 Tryz.sizeOf25 rfl rfl)) ?_
    refine l_m rfl ?_
    refine l_m rfl ?_
    refine l_m rfl ?_
    refine l_m rfl ?_
    refine l_call [] [] [_, _, _, _, _] rfl rfl Tryz.call52 rfl (c_rMost b vm vf day found vs cs9 vq hm hmc o _ (hB.le S15.le) (hF.le S15.le) (hC.le S15.le)) ?_
    rintro _ w16 (⟨e6, hne6, rfl, he6, hl5616⟩ | ⟨hbo6, hten6, rfl, hl5616⟩ | ⟨n6, hbo6, hnt6, hnl6, hP6, hQ6, rfl, hl5616⟩ | ⟨hbo6, hnt6, hQ6, rfl, hl5616⟩)
    ·skip
     have S17 := S15.step hl5616
     have hq := he5.trans he6.symm
     subst hq
     refine l_m rfl ?_
     refine l_x rfl (x_extract rfl rfl) ?_
     refine l_x rfl (x_extract rfl rfl) ?_
     refine l_a rfl ?_
     refine l_a rfl ?_
     refine l_nil ?_
     refine r_seq ?_
     refine r_region ?_
     refine l_call [] [] [] rfl rfl Tryz.call20 rfl (c_marked _ (hG.le S17.le)) ?_
     rintro _ w18 ⟨rfl, hl20⟩
     have S19 := S17.step hl20
     refine l_m rfl ?_
     refine l_m rfl ?_
     refine l_m rfl ?_
     refine l_x rfl (x_eql rfl rfl) ?_
     refine l_x rfl (x_pick_t rfl rfl) ?_
     refine l_m rfl ?_
     refine l_splitd (d := 65) rfl (fun hg65 => ?_) (fun hg65 => ?_)
     ·skip
      refine l_m rfl ?_
      refine l_m rfl ?_
      refine l_call [] [] [_, _] rfl rfl Tryz.call31 rfl (c_SameIntsT _ [] _ [] (by decide) rfl _ rd_nil rd_nil) ?_
      rintro _ w21 ⟨rfl, hl23⟩
      have S22 := S19.step hl23
      refine l_x rfl (x_pick_t rfl rfl) ?_
      refine l_m rfl ?_
      refine l_m rfl ?_
      refine l_m rfl ?_
      refine l_x rfl (x_eql rfl rfl) ?_
      refine l_x rfl (x_pick_t rfl rfl) ?_
      refine l_m rfl ?_
      refine l_splitd (d := 75) rfl (fun hg75 => ?_) (fun hg75 => ?_)
      ·skip
       refine l_m rfl ?_
       refine l_m rfl ?_
       refine l_x rfl (x_eql rfl rfl) ?_
       refine l_x rfl (x_pick_t rfl rfl) ?_
       refine l_a rfl ?_
       refine l_nil ?_
       refine r_ret (rs := [.tmp 10]) [_] Tryz.func12 rfl ⟨rfl, trivial⟩ ?_
       exact ⟨by first | rfl | exact congrArg Value.bool (decide_eq_true rfl), S22.le⟩
      exact absurd rfl hg75
     exact absurd rfl hg65
    ·exact absurd (he5.trans hbo6) hne5
    ·exact absurd (he5.trans hbo6) hne5
    exact absurd (he5.trans hbo6) hne5
   ·skip
    have S24 := S13.step hl4714
    refine l_m rfl ?_
    refine l_x rfl (x_extract rfl rfl) ?_
    refine l_x rfl (x_extract rfl rfl) ?_
    refine l_a rfl ?_
    refine l_a rfl ?_
    refine l_nil ?_
    refine r_seq ?_
    refine r_region ?_
    refine l_x rfl (x_load rfl (ld_blks (S24.blk 0 rfl) Tryz.isAgg25 Tryz.sizeOf25 rfl rfl)) ?_
    refine l_m rfl ?_
    refine l_m rfl ?_
    refine l_m rfl ?_
    refine l_m rfl ?_
    refine l_call [] [] [_, _, _, _, _] rfl rfl Tryz.call52 rfl (c_rMost b vm vf day found vs cs9 vq hm hmc o _ (hB.le S24.le) (hF.le S24.le) (hC.le S24.le)) ?_
    rintro _ w25 (⟨e6, hne6, rfl, he6, hl5625⟩ | ⟨hbo6, hten6, rfl, hl5625⟩ | ⟨n6, hbo6, hnt6, hnl6, hP6, hQ6, rfl, hl5625⟩ | ⟨hbo6, hnt6, hQ6, rfl, hl5625⟩)
    ·exact absurd (he6.trans hbo5) hne6
    ·skip
     have S26 := S24.step hl5625
     refine l_m rfl ?_
     refine l_x rfl (x_extract rfl rfl) ?_
     refine l_x rfl (x_extract rfl rfl) ?_
     refine l_a rfl ?_
     refine l_a rfl ?_
     refine l_nil ?_
     refine r_seq ?_
     refine r_region ?_
     refine l_call [] [] [] rfl rfl Tryz.call20 rfl (c_marked _ (hG.le S26.le)) ?_
     rintro _ w27 ⟨rfl, hl29⟩
     have S28 := S26.step hl29
     refine l_m rfl ?_
     refine l_m rfl ?_
     refine l_m rfl ?_
     refine l_x rfl (x_eql rfl rfl) ?_
     refine l_x rfl (x_pick_t rfl rfl) ?_
     refine l_m rfl ?_
     refine l_splitd (d := 65) rfl (fun hg65 => ?_) (fun hg65 => ?_)
     ·skip
      refine l_m rfl ?_
      refine l_m rfl ?_
      refine l_call [] [] [_, _] rfl rfl Tryz.call31 rfl (c_SameIntsT _ [] _ [] (by decide) rfl _ rd_nil rd_nil) ?_
      rintro _ w30 ⟨rfl, hl32⟩
      have S31 := S28.step hl32
      refine l_x rfl (x_pick_t rfl rfl) ?_
      refine l_m rfl ?_
      refine l_m rfl ?_
      refine l_m rfl ?_
      refine l_x rfl (x_eql rfl rfl) ?_
      refine l_x rfl (x_pick_t rfl rfl) ?_
      refine l_m rfl ?_
      refine l_splitd (d := 75) rfl (fun hg75 => ?_) (fun hg75 => ?_)
      ·skip
       refine l_m rfl ?_
       refine l_m rfl ?_
       refine l_x rfl (x_eql rfl rfl) ?_
       refine l_x rfl (x_pick_t rfl rfl) ?_
       refine l_a rfl ?_
       refine l_nil ?_
       refine r_ret (rs := [.tmp 10]) [_] Tryz.func12 rfl ⟨rfl, trivial⟩ ?_
       exact ⟨by first | rfl | exact congrArg Value.bool (decide_eq_true rfl), S31.le⟩
      exact absurd rfl hg75
     exact absurd rfl hg65
    ·exact absurd hten5 hnt6
    exact absurd hten5 hnt6
   ·skip
    have S33 := S13.step hl4714
    refine l_m rfl ?_
    refine l_x rfl (x_extract rfl rfl) ?_
    refine l_x rfl (x_extract rfl rfl) ?_
    refine l_a rfl ?_
    refine l_a rfl ?_
    refine l_nil ?_
    refine r_seq ?_
    refine r_region ?_
    refine l_x rfl (x_load rfl (ld_blks (S33.blk 0 rfl) Tryz.isAgg25 Tryz.sizeOf25 rfl rfl)) ?_
    refine l_m rfl ?_
    refine l_m rfl ?_
    refine l_m rfl ?_
    refine l_m rfl ?_
    refine l_call [] [] [_, _, _, _, _] rfl rfl Tryz.call52 rfl (c_rMost b vm vf day found vs cs9 vq hm hmc o _ (hB.le S33.le) (hF.le S33.le) (hC.le S33.le)) ?_
    rintro _ w34 (⟨e6, hne6, rfl, he6, hl5634⟩ | ⟨hbo6, hten6, rfl, hl5634⟩ | ⟨n6, hbo6, hnt6, hnl6, hP6, hQ6, rfl, hl5634⟩ | ⟨hbo6, hnt6, hQ6, rfl, hl5634⟩)
    ·exact absurd (he6.trans hbo5) hne6
    ·exact absurd hten6 hnt5
    ·skip
     have S35 := S33.step hl5634
     have hq := most_same (begin_apart9 hbo5) hnl5 hnl6 hP5 hP6 hQ5 hQ6 (bench_len8 hbo5)
     subst hq
     refine l_m rfl ?_
     refine l_x rfl (x_extract rfl rfl) ?_
     refine l_x rfl (x_extract rfl rfl) ?_
     refine l_a rfl ?_
     refine l_a rfl ?_
     refine l_nil ?_
     refine r_seq ?_
     refine r_region ?_
     refine l_call [] [] [] rfl rfl Tryz.call20 rfl (c_marked _ (hG.le S35.le)) ?_
     rintro _ w36 ⟨rfl, hl38⟩
     have S37 := S35.step hl38
     refine l_m rfl ?_
     refine l_m rfl ?_
     refine l_m rfl ?_
     refine l_x rfl (x_eql rfl rfl) ?_
     refine l_x rfl (x_pick_t rfl rfl) ?_
     refine l_m rfl ?_
     refine l_splitd (d := 65) rfl (fun hg65 => ?_) (fun hg65 => ?_)
     ·skip
      refine l_m rfl ?_
      refine l_m rfl ?_
      refine l_call [] [] [_, _] rfl rfl Tryz.call31 rfl (c_SameIntsT _ [] _ [] (by decide) rfl _ rd_nil rd_nil) ?_
      rintro _ w39 ⟨rfl, hl41⟩
      have S40 := S37.step hl41
      refine l_x rfl (x_pick_t rfl rfl) ?_
      refine l_m rfl ?_
      refine l_m rfl ?_
      refine l_m rfl ?_
      refine l_x rfl (x_eql rfl rfl) ?_
      refine l_x rfl (x_pick_t rfl rfl) ?_
      refine l_m rfl ?_
      refine l_splitd (d := 75) rfl (fun hg75 => ?_) (fun hg75 => ?_)
      ·skip
       refine l_m rfl ?_
       refine l_m rfl ?_
       refine l_x rfl (x_eql rfl rfl) ?_
       refine l_x rfl (x_pick_t rfl rfl) ?_
       refine l_a rfl ?_
       refine l_nil ?_
       refine r_ret (rs := [.tmp 10]) [_] Tryz.func12 rfl ⟨rfl, trivial⟩ ?_
       exact ⟨by first | rfl | exact congrArg Value.bool (decide_eq_true rfl), S40.le⟩
      exact absurd rfl hg75
     exact absurd rfl hg65
    exact absurd hP5 (by rw [hQ6 n5 (by have := bench_len8 hbo5; omega)]; simp)
   have S42 := S13.step hl4714
   refine l_m rfl ?_
   refine l_x rfl (x_extract rfl rfl) ?_
   refine l_x rfl (x_extract rfl rfl) ?_
   refine l_a rfl ?_
   refine l_a rfl ?_
   refine l_nil ?_
   refine r_seq ?_
   refine r_region ?_
   refine l_x rfl (x_load rfl (ld_blks (S42.blk 0 rfl) Tryz.isAgg25 Tryz.sizeOf25 rfl rfl)) ?_
   refine l_m rfl ?_
   refine l_m rfl ?_
   refine l_m rfl ?_
   refine l_m rfl ?_
   refine l_call [] [] [_, _, _, _, _] rfl rfl Tryz.call52 rfl (c_rMost b vm vf day found vs cs9 vq hm hmc o _ (hB.le S42.le) (hF.le S42.le) (hC.le S42.le)) ?_
   rintro _ w43 (⟨e6, hne6, rfl, he6, hl5643⟩ | ⟨hbo6, hten6, rfl, hl5643⟩ | ⟨n6, hbo6, hnt6, hnl6, hP6, hQ6, rfl, hl5643⟩ | ⟨hbo6, hnt6, hQ6, rfl, hl5643⟩)
   ·exact absurd (he6.trans hbo5) hne6
   ·exact absurd hten6 hnt5
   ·exact absurd hP6 (by rw [hQ5 n6 (Nat.le_trans (most_fit (begin_apart9 hbo5) hP6) fit_len)]; simp)
   have S44 := S42.step hl5643
   refine l_m rfl ?_
   refine l_x rfl (x_extract rfl rfl) ?_
   refine l_x rfl (x_extract rfl rfl) ?_
   refine l_a rfl ?_
   refine l_a rfl ?_
   refine l_nil ?_
   refine r_seq ?_
   refine r_region ?_
   refine l_call [] [] [] rfl rfl Tryz.call20 rfl (c_marked _ (hG.le S44.le)) ?_
   rintro _ w45 ⟨rfl, hl47⟩
   have S46 := S44.step hl47
   refine l_m rfl ?_
   refine l_m rfl ?_
   refine l_m rfl ?_
   refine l_x rfl (x_eql rfl rfl) ?_
   refine l_x rfl (x_pick_t rfl rfl) ?_
   refine l_m rfl ?_
   refine l_splitd (d := 65) rfl (fun hg65 => ?_) (fun hg65 => ?_)
   ·skip
    refine l_m rfl ?_
    refine l_m rfl ?_
    refine l_call [] [] [_, _] rfl rfl Tryz.call31 rfl (c_SameIntsT _ [] _ [] (by decide) rfl _ rd_nil rd_nil) ?_
    rintro _ w48 ⟨rfl, hl50⟩
    have S49 := S46.step hl50
    refine l_x rfl (x_pick_t rfl rfl) ?_
    refine l_m rfl ?_
    refine l_m rfl ?_
    refine l_m rfl ?_
    refine l_x rfl (x_eql rfl rfl) ?_
    refine l_x rfl (x_pick_t rfl rfl) ?_
    refine l_m rfl ?_
    refine l_splitd (d := 75) rfl (fun hg75 => ?_) (fun hg75 => ?_)
    ·skip
     refine l_m rfl ?_
     refine l_m rfl ?_
     refine l_x rfl (x_eql rfl rfl) ?_
     refine l_x rfl (x_pick_t rfl rfl) ?_
     refine l_a rfl ?_
     refine l_nil ?_
     refine r_ret (rs := [.tmp 10]) [_] Tryz.func12 rfl ⟨rfl, trivial⟩ ?_
     exact ⟨by first | rfl | exact congrArg Value.bool (decide_eq_true rfl), S49.le⟩
    exact absurd rfl hg75
   exact absurd rfl hg65
  ·exact absurd (he9.trans hb8) hne9
  exact absurd (he9.trans hb8) hne9
 ·skip
  have S51 := S6.step hl3010
  have hm9 : metB (fs b day found) cs9 = false := (can_cs hb9 hp9).symm.trans hc9
  refine l_m rfl ?_
  refine l_x rfl (x_extract rfl rfl) ?_
  refine l_x rfl (x_extract rfl rfl) ?_
  refine l_a rfl ?_
  refine l_a rfl ?_
  refine l_nil ?_
  refine r_seq ?_
  refine r_region ?_
  refine l_x rfl (x_load rfl (ld_blks (S51.blk 0 rfl) Tryz.isAgg25 Tryz.sizeOf25 rfl rfl)) ?_
  refine l_m rfl ?_
  refine l_m rfl ?_
  refine l_m rfl ?_
  refine l_call [] [] [_, _, _, _] rfl rfl Tryz.call50 rfl (c_rCertain b vm vf day found vs cs9 vq hm hmc _ (hB.le S51.le) (hF.le S51.le) (hC.le S51.le)) ?_
  rintro _ w52 (⟨f9, hf9, rfl, hfe9, hl3852⟩ | ⟨hb8, hm8, rfl, hl3852⟩ | ⟨hb8, hm8, y9, rfl, hN3852, hl3852⟩)
  ·exact absurd (hfe9.trans hb9) hf9
  ·skip
   have S53 := S51.step hl3852
   refine l_m rfl ?_
   refine l_x rfl (x_extract rfl rfl) ?_
   refine l_x rfl (x_extract rfl rfl) ?_
   refine l_a rfl ?_
   refine l_a rfl ?_
   refine l_nil ?_
   refine r_seq ?_
   refine r_region ?_
   refine l_x rfl (x_load rfl (ld_blks (S53.blk 0 rfl) Tryz.isAgg25 Tryz.sizeOf25 rfl rfl)) ?_
   refine l_m rfl ?_
   refine l_m rfl ?_
   refine l_m rfl ?_
   refine l_m rfl ?_
   refine l_call [] [] [_, _, _, _, _] rfl rfl Tryz.call51 rfl (c_Most b vm vf day found vs cs9 vq hm hmc hsg o _ (hB.le S53.le) (hF.le S53.le) (hC.le S53.le)) ?_
   rintro _ w54 (⟨e5, hne5, rfl, he5, hl4754⟩ | ⟨hbo5, hten5, rfl, hl4754⟩ | ⟨n5, hbo5, hnt5, hnl5, hP5, hQ5, rfl, hl4754⟩ | ⟨hbo5, hnt5, hQ5, rfl, hl4754⟩)
   ·skip
    have S55 := S53.step hl4754
    refine l_m rfl ?_
    refine l_x rfl (x_extract rfl rfl) ?_
    refine l_x rfl (x_extract rfl rfl) ?_
    refine l_a rfl ?_
    refine l_a rfl ?_
    refine l_nil ?_
    refine r_seq ?_
    refine r_region ?_
    refine l_x rfl (x_load rfl (ld_blks (S55.blk 0 rfl) Tryz.isAgg25 Tryz.sizeOf25 rfl rfl)) ?_
    refine l_m rfl ?_
    refine l_m rfl ?_
    refine l_m rfl ?_
    refine l_m rfl ?_
    refine l_call [] [] [_, _, _, _, _] rfl rfl Tryz.call52 rfl (c_rMost b vm vf day found vs cs9 vq hm hmc o _ (hB.le S55.le) (hF.le S55.le) (hC.le S55.le)) ?_
    rintro _ w56 (⟨e6, hne6, rfl, he6, hl5656⟩ | ⟨hbo6, hten6, rfl, hl5656⟩ | ⟨n6, hbo6, hnt6, hnl6, hP6, hQ6, rfl, hl5656⟩ | ⟨hbo6, hnt6, hQ6, rfl, hl5656⟩)
    ·skip
     have S57 := S55.step hl5656
     have hq := he5.trans he6.symm
     subst hq
     refine l_m rfl ?_
     refine l_x rfl (x_extract rfl rfl) ?_
     refine l_x rfl (x_extract rfl rfl) ?_
     refine l_a rfl ?_
     refine l_a rfl ?_
     refine l_nil ?_
     refine r_seq ?_
     refine r_region ?_
     refine l_call [] [] [] rfl rfl Tryz.call20 rfl (c_marked _ (hG.le S57.le)) ?_
     rintro _ w58 ⟨rfl, hl60⟩
     have S59 := S57.step hl60
     refine l_m rfl ?_
     refine l_m rfl ?_
     refine l_m rfl ?_
     refine l_x rfl (x_eql rfl rfl) ?_
     refine l_x rfl (x_pick_t rfl rfl) ?_
     refine l_m rfl ?_
     refine l_splitd (d := 65) rfl (fun hg65 => ?_) (fun hg65 => ?_)
     ·skip
      refine l_m rfl ?_
      refine l_m rfl ?_
      refine l_call [] [] [_, _] rfl rfl Tryz.call31 rfl (c_SameIntsT _ [] _ [] (by decide) rfl _ rd_nil rd_nil) ?_
      rintro _ w61 ⟨rfl, hl63⟩
      have S62 := S59.step hl63
      refine l_x rfl (x_pick_t rfl rfl) ?_
      refine l_m rfl ?_
      refine l_m rfl ?_
      refine l_m rfl ?_
      refine l_x rfl (x_eql rfl rfl) ?_
      refine l_x rfl (x_pick_t rfl rfl) ?_
      refine l_m rfl ?_
      refine l_splitd (d := 75) rfl (fun hg75 => ?_) (fun hg75 => ?_)
      ·skip
       refine l_m rfl ?_
       refine l_m rfl ?_
       refine l_x rfl (x_eql rfl rfl) ?_
       refine l_x rfl (x_pick_t rfl rfl) ?_
       refine l_a rfl ?_
       refine l_nil ?_
       refine r_ret (rs := [.tmp 10]) [_] Tryz.func12 rfl ⟨rfl, trivial⟩ ?_
       exact ⟨by first | rfl | exact congrArg Value.bool (decide_eq_true rfl), S62.le⟩
      exact absurd rfl hg75
     exact absurd rfl hg65
    ·exact absurd (he5.trans hbo6) hne5
    ·exact absurd (he5.trans hbo6) hne5
    exact absurd (he5.trans hbo6) hne5
   ·skip
    have S64 := S53.step hl4754
    refine l_m rfl ?_
    refine l_x rfl (x_extract rfl rfl) ?_
    refine l_x rfl (x_extract rfl rfl) ?_
    refine l_a rfl ?_
    refine l_a rfl ?_
    refine l_nil ?_
    refine r_seq ?_
    refine r_region ?_
    refine l_x rfl (x_load rfl (ld_blks (S64.blk 0 rfl) Tryz.isAgg25 Tryz.sizeOf25 rfl rfl)) ?_
    refine l_m rfl ?_
    refine l_m rfl ?_
    refine l_m rfl ?_
    refine l_m rfl ?_
    refine l_call [] [] [_, _, _, _, _] rfl rfl Tryz.call52 rfl (c_rMost b vm vf day found vs cs9 vq hm hmc o _ (hB.le S64.le) (hF.le S64.le) (hC.le S64.le)) ?_
    rintro _ w65 (⟨e6, hne6, rfl, he6, hl5665⟩ | ⟨hbo6, hten6, rfl, hl5665⟩ | ⟨n6, hbo6, hnt6, hnl6, hP6, hQ6, rfl, hl5665⟩ | ⟨hbo6, hnt6, hQ6, rfl, hl5665⟩)
    ·exact absurd (he6.trans hbo5) hne6
    ·skip
     have S66 := S64.step hl5665
     refine l_m rfl ?_
     refine l_x rfl (x_extract rfl rfl) ?_
     refine l_x rfl (x_extract rfl rfl) ?_
     refine l_a rfl ?_
     refine l_a rfl ?_
     refine l_nil ?_
     refine r_seq ?_
     refine r_region ?_
     refine l_call [] [] [] rfl rfl Tryz.call20 rfl (c_marked _ (hG.le S66.le)) ?_
     rintro _ w67 ⟨rfl, hl69⟩
     have S68 := S66.step hl69
     refine l_m rfl ?_
     refine l_m rfl ?_
     refine l_m rfl ?_
     refine l_x rfl (x_eql rfl rfl) ?_
     refine l_x rfl (x_pick_t rfl rfl) ?_
     refine l_m rfl ?_
     refine l_splitd (d := 65) rfl (fun hg65 => ?_) (fun hg65 => ?_)
     ·skip
      refine l_m rfl ?_
      refine l_m rfl ?_
      refine l_call [] [] [_, _] rfl rfl Tryz.call31 rfl (c_SameIntsT _ [] _ [] (by decide) rfl _ rd_nil rd_nil) ?_
      rintro _ w70 ⟨rfl, hl72⟩
      have S71 := S68.step hl72
      refine l_x rfl (x_pick_t rfl rfl) ?_
      refine l_m rfl ?_
      refine l_m rfl ?_
      refine l_m rfl ?_
      refine l_x rfl (x_eql rfl rfl) ?_
      refine l_x rfl (x_pick_t rfl rfl) ?_
      refine l_m rfl ?_
      refine l_splitd (d := 75) rfl (fun hg75 => ?_) (fun hg75 => ?_)
      ·skip
       refine l_m rfl ?_
       refine l_m rfl ?_
       refine l_x rfl (x_eql rfl rfl) ?_
       refine l_x rfl (x_pick_t rfl rfl) ?_
       refine l_a rfl ?_
       refine l_nil ?_
       refine r_ret (rs := [.tmp 10]) [_] Tryz.func12 rfl ⟨rfl, trivial⟩ ?_
       exact ⟨by first | rfl | exact congrArg Value.bool (decide_eq_true rfl), S71.le⟩
      exact absurd rfl hg75
     exact absurd rfl hg65
    ·exact absurd hten5 hnt6
    exact absurd hten5 hnt6
   ·skip
    have S73 := S53.step hl4754
    refine l_m rfl ?_
    refine l_x rfl (x_extract rfl rfl) ?_
    refine l_x rfl (x_extract rfl rfl) ?_
    refine l_a rfl ?_
    refine l_a rfl ?_
    refine l_nil ?_
    refine r_seq ?_
    refine r_region ?_
    refine l_x rfl (x_load rfl (ld_blks (S73.blk 0 rfl) Tryz.isAgg25 Tryz.sizeOf25 rfl rfl)) ?_
    refine l_m rfl ?_
    refine l_m rfl ?_
    refine l_m rfl ?_
    refine l_m rfl ?_
    refine l_call [] [] [_, _, _, _, _] rfl rfl Tryz.call52 rfl (c_rMost b vm vf day found vs cs9 vq hm hmc o _ (hB.le S73.le) (hF.le S73.le) (hC.le S73.le)) ?_
    rintro _ w74 (⟨e6, hne6, rfl, he6, hl5674⟩ | ⟨hbo6, hten6, rfl, hl5674⟩ | ⟨n6, hbo6, hnt6, hnl6, hP6, hQ6, rfl, hl5674⟩ | ⟨hbo6, hnt6, hQ6, rfl, hl5674⟩)
    ·exact absurd (he6.trans hbo5) hne6
    ·exact absurd hten6 hnt5
    ·skip
     have S75 := S73.step hl5674
     have hq := most_same (begin_apart9 hbo5) hnl5 hnl6 hP5 hP6 hQ5 hQ6 (bench_len8 hbo5)
     subst hq
     refine l_m rfl ?_
     refine l_x rfl (x_extract rfl rfl) ?_
     refine l_x rfl (x_extract rfl rfl) ?_
     refine l_a rfl ?_
     refine l_a rfl ?_
     refine l_nil ?_
     refine r_seq ?_
     refine r_region ?_
     refine l_call [] [] [] rfl rfl Tryz.call20 rfl (c_marked _ (hG.le S75.le)) ?_
     rintro _ w76 ⟨rfl, hl78⟩
     have S77 := S75.step hl78
     refine l_m rfl ?_
     refine l_m rfl ?_
     refine l_m rfl ?_
     refine l_x rfl (x_eql rfl rfl) ?_
     refine l_x rfl (x_pick_t rfl rfl) ?_
     refine l_m rfl ?_
     refine l_splitd (d := 65) rfl (fun hg65 => ?_) (fun hg65 => ?_)
     ·skip
      refine l_m rfl ?_
      refine l_m rfl ?_
      refine l_call [] [] [_, _] rfl rfl Tryz.call31 rfl (c_SameIntsT _ [] _ [] (by decide) rfl _ rd_nil rd_nil) ?_
      rintro _ w79 ⟨rfl, hl81⟩
      have S80 := S77.step hl81
      refine l_x rfl (x_pick_t rfl rfl) ?_
      refine l_m rfl ?_
      refine l_m rfl ?_
      refine l_m rfl ?_
      refine l_x rfl (x_eql rfl rfl) ?_
      refine l_x rfl (x_pick_t rfl rfl) ?_
      refine l_m rfl ?_
      refine l_splitd (d := 75) rfl (fun hg75 => ?_) (fun hg75 => ?_)
      ·skip
       refine l_m rfl ?_
       refine l_m rfl ?_
       refine l_x rfl (x_eql rfl rfl) ?_
       refine l_x rfl (x_pick_t rfl rfl) ?_
       refine l_a rfl ?_
       refine l_nil ?_
       refine r_ret (rs := [.tmp 10]) [_] Tryz.func12 rfl ⟨rfl, trivial⟩ ?_
       exact ⟨by first | rfl | exact congrArg Value.bool (decide_eq_true rfl), S80.le⟩
      exact absurd rfl hg75
     exact absurd rfl hg65
    exact absurd hP5 (by rw [hQ6 n5 (by have := bench_len8 hbo5; omega)]; simp)
   have S82 := S53.step hl4754
   refine l_m rfl ?_
   refine l_x rfl (x_extract rfl rfl) ?_
   refine l_x rfl (x_extract rfl rfl) ?_
   refine l_a rfl ?_
   refine l_a rfl ?_
   refine l_nil ?_
   refine r_seq ?_
   refine r_region ?_
   refine l_x rfl (x_load rfl (ld_blks (S82.blk 0 rfl) Tryz.isAgg25 Tryz.sizeOf25 rfl rfl)) ?_
   refine l_m rfl ?_
   refine l_m rfl ?_
   refine l_m rfl ?_
   refine l_m rfl ?_
   refine l_call [] [] [_, _, _, _, _] rfl rfl Tryz.call52 rfl (c_rMost b vm vf day found vs cs9 vq hm hmc o _ (hB.le S82.le) (hF.le S82.le) (hC.le S82.le)) ?_
   rintro _ w83 (⟨e6, hne6, rfl, he6, hl5683⟩ | ⟨hbo6, hten6, rfl, hl5683⟩ | ⟨n6, hbo6, hnt6, hnl6, hP6, hQ6, rfl, hl5683⟩ | ⟨hbo6, hnt6, hQ6, rfl, hl5683⟩)
   ·exact absurd (he6.trans hbo5) hne6
   ·exact absurd hten6 hnt5
   ·exact absurd hP6 (by rw [hQ5 n6 (Nat.le_trans (most_fit (begin_apart9 hbo5) hP6) fit_len)]; simp)
   have S84 := S82.step hl5683
   refine l_m rfl ?_
   refine l_x rfl (x_extract rfl rfl) ?_
   refine l_x rfl (x_extract rfl rfl) ?_
   refine l_a rfl ?_
   refine l_a rfl ?_
   refine l_nil ?_
   refine r_seq ?_
   refine r_region ?_
   refine l_call [] [] [] rfl rfl Tryz.call20 rfl (c_marked _ (hG.le S84.le)) ?_
   rintro _ w85 ⟨rfl, hl87⟩
   have S86 := S84.step hl87
   refine l_m rfl ?_
   refine l_m rfl ?_
   refine l_m rfl ?_
   refine l_x rfl (x_eql rfl rfl) ?_
   refine l_x rfl (x_pick_t rfl rfl) ?_
   refine l_m rfl ?_
   refine l_splitd (d := 65) rfl (fun hg65 => ?_) (fun hg65 => ?_)
   ·skip
    refine l_m rfl ?_
    refine l_m rfl ?_
    refine l_call [] [] [_, _] rfl rfl Tryz.call31 rfl (c_SameIntsT _ [] _ [] (by decide) rfl _ rd_nil rd_nil) ?_
    rintro _ w88 ⟨rfl, hl90⟩
    have S89 := S86.step hl90
    refine l_x rfl (x_pick_t rfl rfl) ?_
    refine l_m rfl ?_
    refine l_m rfl ?_
    refine l_m rfl ?_
    refine l_x rfl (x_eql rfl rfl) ?_
    refine l_x rfl (x_pick_t rfl rfl) ?_
    refine l_m rfl ?_
    refine l_splitd (d := 75) rfl (fun hg75 => ?_) (fun hg75 => ?_)
    ·skip
     refine l_m rfl ?_
     refine l_m rfl ?_
     refine l_x rfl (x_eql rfl rfl) ?_
     refine l_x rfl (x_pick_t rfl rfl) ?_
     refine l_a rfl ?_
     refine l_nil ?_
     refine r_ret (rs := [.tmp 10]) [_] Tryz.func12 rfl ⟨rfl, trivial⟩ ?_
     exact ⟨by first | rfl | exact congrArg Value.bool (decide_eq_true rfl), S89.le⟩
    exact absurd rfl hg75
   exact absurd rfl hg65
  rw [hm9] at hm8; cases hm8
 have S91 := S6.add hl3010 hN3010
 have hm9 : metB (fs b day found) cs9 = true := (can_cs hb9 hp9).symm.trans hc9
 have hcr9 := bench_cert hb9 hp9 hs9 hc9
 have hf60 := bench_len hb9
 refine l_m rfl ?_
 refine l_x rfl (x_extract rfl rfl) ?_
 refine l_x rfl (x_extract rfl rfl) ?_
 refine l_a rfl ?_
 refine l_a rfl ?_
 refine l_nil ?_
 refine r_seq ?_
 refine r_region ?_
 refine l_x rfl (x_load rfl (ld_blks (S91.blk 0 rfl) Tryz.isAgg25 Tryz.sizeOf25 rfl rfl)) ?_
 refine l_m rfl ?_
 refine l_m rfl ?_
 refine l_m rfl ?_
 refine l_call [] [] [_, _, _, _] rfl rfl Tryz.call50 rfl (c_rCertain b vm vf day found vs cs9 vq hm hmc _ (hB.le S91.le) (hF.le S91.le) (hC.le S91.le)) ?_
 rintro _ w92 (⟨f9, hf9, rfl, hfe9, hl3892⟩ | ⟨hb8, hm8, rfl, hl3892⟩ | ⟨hb8, hm8, y9, rfl, hN3892, hl3892⟩)
 ·exact absurd (hfe9.trans hb9) hf9
 ·rw [hm9] at hm8; cases hm8
 have S93 := S91.add hl3892 hN3892
 refine l_m rfl ?_
 refine l_x rfl (x_extract rfl rfl) ?_
 refine l_x rfl (x_extract rfl rfl) ?_
 refine l_a rfl ?_
 refine l_a rfl ?_
 refine l_nil ?_
 refine r_seq ?_
 refine r_region ?_
 refine l_x rfl (x_load rfl (ld_blks (S93.blk 0 rfl) Tryz.isAgg25 Tryz.sizeOf25 rfl rfl)) ?_
 refine l_m rfl ?_
 refine l_m rfl ?_
 refine l_m rfl ?_
 refine l_m rfl ?_
 refine l_call [] [] [_, _, _, _, _] rfl rfl Tryz.call51 rfl (c_Most b vm vf day found vs cs9 vq hm hmc hsg o _ (hB.le S93.le) (hF.le S93.le) (hC.le S93.le)) ?_
 rintro _ w94 (⟨e5, hne5, rfl, he5, hl4794⟩ | ⟨hbo5, hten5, rfl, hl4794⟩ | ⟨n5, hbo5, hnt5, hnl5, hP5, hQ5, rfl, hl4794⟩ | ⟨hbo5, hnt5, hQ5, rfl, hl4794⟩)
 ·skip
  have S95 := S93.step hl4794
  refine l_m rfl ?_
  refine l_x rfl (x_extract rfl rfl) ?_
  refine l_x rfl (x_extract rfl rfl) ?_
  refine l_a rfl ?_
  refine l_a rfl ?_
  refine l_nil ?_
  refine r_seq ?_
  refine r_region ?_
  refine l_x rfl (x_load rfl (ld_blks (S95.blk 0 rfl) Tryz.isAgg25 Tryz.sizeOf25 rfl rfl)) ?_
  refine l_m rfl ?_
  refine l_m rfl ?_
  refine l_m rfl ?_
  refine l_m rfl ?_
  refine l_call [] [] [_, _, _, _, _] rfl rfl Tryz.call52 rfl (c_rMost b vm vf day found vs cs9 vq hm hmc o _ (hB.le S95.le) (hF.le S95.le) (hC.le S95.le)) ?_
  rintro _ w96 (⟨e6, hne6, rfl, he6, hl5696⟩ | ⟨hbo6, hten6, rfl, hl5696⟩ | ⟨n6, hbo6, hnt6, hnl6, hP6, hQ6, rfl, hl5696⟩ | ⟨hbo6, hnt6, hQ6, rfl, hl5696⟩)
  ·skip
   have S97 := S95.step hl5696
   have hq := he5.trans he6.symm
   subst hq
   refine l_m rfl ?_
   refine l_x rfl (x_extract rfl rfl) ?_
   refine l_x rfl (x_extract rfl rfl) ?_
   refine l_a rfl ?_
   refine l_a rfl ?_
   refine l_nil ?_
   refine r_seq ?_
   refine r_region ?_
   refine l_call [] [] [] rfl rfl Tryz.call20 rfl (c_marked _ (hG.le S97.le)) ?_
   rintro _ w98 ⟨rfl, hl100⟩
   have S99 := S97.step hl100
   refine l_m rfl ?_
   refine l_m rfl ?_
   refine l_m rfl ?_
   refine l_x rfl (x_eql rfl rfl) ?_
   refine l_x rfl (x_pick_t rfl rfl) ?_
   refine l_m rfl ?_
   refine l_splitd (d := 65) rfl (fun hg65 => ?_) (fun hg65 => ?_)
   ·skip
    refine l_m rfl ?_
    refine l_m rfl ?_
    refine l_call [] [] [_, _] rfl rfl Tryz.call31 rfl (c_SameIntsT _ _ _ _ (by simp; omega) hcr9 _ (vec_rd (S99.at 1 rfl)) (vec_rd (S99.at 2 rfl))) ?_
    rintro _ w101 ⟨rfl, hl103⟩
    have S102 := S99.step hl103
    refine l_x rfl (x_pick_t rfl rfl) ?_
    refine l_m rfl ?_
    refine l_m rfl ?_
    refine l_m rfl ?_
    refine l_x rfl (x_eql rfl rfl) ?_
    refine l_x rfl (x_pick_t rfl rfl) ?_
    refine l_m rfl ?_
    refine l_splitd (d := 75) rfl (fun hg75 => ?_) (fun hg75 => ?_)
    ·skip
     refine l_m rfl ?_
     refine l_m rfl ?_
     refine l_x rfl (x_eql rfl rfl) ?_
     refine l_x rfl (x_pick_t rfl rfl) ?_
     refine l_a rfl ?_
     refine l_nil ?_
     refine r_ret (rs := [.tmp 10]) [_] Tryz.func12 rfl ⟨rfl, trivial⟩ ?_
     exact ⟨by first | rfl | exact congrArg Value.bool (decide_eq_true rfl), S102.le⟩
    exact absurd rfl hg75
   exact absurd rfl hg65
  ·exact absurd (he5.trans hbo6) hne5
  ·exact absurd (he5.trans hbo6) hne5
  exact absurd (he5.trans hbo6) hne5
 ·skip
  have S104 := S93.step hl4794
  refine l_m rfl ?_
  refine l_x rfl (x_extract rfl rfl) ?_
  refine l_x rfl (x_extract rfl rfl) ?_
  refine l_a rfl ?_
  refine l_a rfl ?_
  refine l_nil ?_
  refine r_seq ?_
  refine r_region ?_
  refine l_x rfl (x_load rfl (ld_blks (S104.blk 0 rfl) Tryz.isAgg25 Tryz.sizeOf25 rfl rfl)) ?_
  refine l_m rfl ?_
  refine l_m rfl ?_
  refine l_m rfl ?_
  refine l_m rfl ?_
  refine l_call [] [] [_, _, _, _, _] rfl rfl Tryz.call52 rfl (c_rMost b vm vf day found vs cs9 vq hm hmc o _ (hB.le S104.le) (hF.le S104.le) (hC.le S104.le)) ?_
  rintro _ w105 (⟨e6, hne6, rfl, he6, hl56105⟩ | ⟨hbo6, hten6, rfl, hl56105⟩ | ⟨n6, hbo6, hnt6, hnl6, hP6, hQ6, rfl, hl56105⟩ | ⟨hbo6, hnt6, hQ6, rfl, hl56105⟩)
  ·exact absurd (he6.trans hbo5) hne6
  ·skip
   have S106 := S104.step hl56105
   refine l_m rfl ?_
   refine l_x rfl (x_extract rfl rfl) ?_
   refine l_x rfl (x_extract rfl rfl) ?_
   refine l_a rfl ?_
   refine l_a rfl ?_
   refine l_nil ?_
   refine r_seq ?_
   refine r_region ?_
   refine l_call [] [] [] rfl rfl Tryz.call20 rfl (c_marked _ (hG.le S106.le)) ?_
   rintro _ w107 ⟨rfl, hl109⟩
   have S108 := S106.step hl109
   refine l_m rfl ?_
   refine l_m rfl ?_
   refine l_m rfl ?_
   refine l_x rfl (x_eql rfl rfl) ?_
   refine l_x rfl (x_pick_t rfl rfl) ?_
   refine l_m rfl ?_
   refine l_splitd (d := 65) rfl (fun hg65 => ?_) (fun hg65 => ?_)
   ·skip
    refine l_m rfl ?_
    refine l_m rfl ?_
    refine l_call [] [] [_, _] rfl rfl Tryz.call31 rfl (c_SameIntsT _ _ _ _ (by simp; omega) hcr9 _ (vec_rd (S108.at 1 rfl)) (vec_rd (S108.at 2 rfl))) ?_
    rintro _ w110 ⟨rfl, hl112⟩
    have S111 := S108.step hl112
    refine l_x rfl (x_pick_t rfl rfl) ?_
    refine l_m rfl ?_
    refine l_m rfl ?_
    refine l_m rfl ?_
    refine l_x rfl (x_eql rfl rfl) ?_
    refine l_x rfl (x_pick_t rfl rfl) ?_
    refine l_m rfl ?_
    refine l_splitd (d := 75) rfl (fun hg75 => ?_) (fun hg75 => ?_)
    ·skip
     refine l_m rfl ?_
     refine l_m rfl ?_
     refine l_x rfl (x_eql rfl rfl) ?_
     refine l_x rfl (x_pick_t rfl rfl) ?_
     refine l_a rfl ?_
     refine l_nil ?_
     refine r_ret (rs := [.tmp 10]) [_] Tryz.func12 rfl ⟨rfl, trivial⟩ ?_
     exact ⟨by first | rfl | exact congrArg Value.bool (decide_eq_true rfl), S111.le⟩
    exact absurd rfl hg75
   exact absurd rfl hg65
  ·exact absurd hten5 hnt6
  exact absurd hten5 hnt6
 ·skip
  have S113 := S93.step hl4794
  refine l_m rfl ?_
  refine l_x rfl (x_extract rfl rfl) ?_
  refine l_x rfl (x_extract rfl rfl) ?_
  refine l_a rfl ?_
  refine l_a rfl ?_
  refine l_nil ?_
  refine r_seq ?_
  refine r_region ?_
  refine l_x rfl (x_load rfl (ld_blks (S113.blk 0 rfl) Tryz.isAgg25 Tryz.sizeOf25 rfl rfl)) ?_
  refine l_m rfl ?_
  refine l_m rfl ?_
  refine l_m rfl ?_
  refine l_m rfl ?_
  refine l_call [] [] [_, _, _, _, _] rfl rfl Tryz.call52 rfl (c_rMost b vm vf day found vs cs9 vq hm hmc o _ (hB.le S113.le) (hF.le S113.le) (hC.le S113.le)) ?_
  rintro _ w114 (⟨e6, hne6, rfl, he6, hl56114⟩ | ⟨hbo6, hten6, rfl, hl56114⟩ | ⟨n6, hbo6, hnt6, hnl6, hP6, hQ6, rfl, hl56114⟩ | ⟨hbo6, hnt6, hQ6, rfl, hl56114⟩)
  ·exact absurd (he6.trans hbo5) hne6
  ·exact absurd hten6 hnt5
  ·skip
   have S115 := S113.step hl56114
   have hq := most_same (begin_apart9 hbo5) hnl5 hnl6 hP5 hP6 hQ5 hQ6 (bench_len8 hbo5)
   subst hq
   refine l_m rfl ?_
   refine l_x rfl (x_extract rfl rfl) ?_
   refine l_x rfl (x_extract rfl rfl) ?_
   refine l_a rfl ?_
   refine l_a rfl ?_
   refine l_nil ?_
   refine r_seq ?_
   refine r_region ?_
   refine l_call [] [] [] rfl rfl Tryz.call20 rfl (c_marked _ (hG.le S115.le)) ?_
   rintro _ w116 ⟨rfl, hl118⟩
   have S117 := S115.step hl118
   refine l_m rfl ?_
   refine l_m rfl ?_
   refine l_m rfl ?_
   refine l_x rfl (x_eql rfl rfl) ?_
   refine l_x rfl (x_pick_t rfl rfl) ?_
   refine l_m rfl ?_
   refine l_splitd (d := 65) rfl (fun hg65 => ?_) (fun hg65 => ?_)
   ·skip
    refine l_m rfl ?_
    refine l_m rfl ?_
    refine l_call [] [] [_, _] rfl rfl Tryz.call31 rfl (c_SameIntsT _ _ _ _ (by simp; omega) hcr9 _ (vec_rd (S117.at 1 rfl)) (vec_rd (S117.at 2 rfl))) ?_
    rintro _ w119 ⟨rfl, hl121⟩
    have S120 := S117.step hl121
    refine l_x rfl (x_pick_t rfl rfl) ?_
    refine l_m rfl ?_
    refine l_m rfl ?_
    refine l_m rfl ?_
    refine l_x rfl (x_eql rfl rfl) ?_
    refine l_x rfl (x_pick_t rfl rfl) ?_
    refine l_m rfl ?_
    refine l_splitd (d := 75) rfl (fun hg75 => ?_) (fun hg75 => ?_)
    ·skip
     refine l_m rfl ?_
     refine l_m rfl ?_
     refine l_x rfl (x_eql rfl rfl) ?_
     refine l_x rfl (x_pick_t rfl rfl) ?_
     refine l_a rfl ?_
     refine l_nil ?_
     refine r_ret (rs := [.tmp 10]) [_] Tryz.func12 rfl ⟨rfl, trivial⟩ ?_
     exact ⟨by first | rfl | exact congrArg Value.bool (decide_eq_true rfl), S120.le⟩
    exact absurd rfl hg75
   exact absurd rfl hg65
  exact absurd hP5 (by rw [hQ6 n5 (by have := bench_len8 hbo5; omega)]; simp)
 have S122 := S93.step hl4794
 refine l_m rfl ?_
 refine l_x rfl (x_extract rfl rfl) ?_
 refine l_x rfl (x_extract rfl rfl) ?_
 refine l_a rfl ?_
 refine l_a rfl ?_
 refine l_nil ?_
 refine r_seq ?_
 refine r_region ?_
 refine l_x rfl (x_load rfl (ld_blks (S122.blk 0 rfl) Tryz.isAgg25 Tryz.sizeOf25 rfl rfl)) ?_
 refine l_m rfl ?_
 refine l_m rfl ?_
 refine l_m rfl ?_
 refine l_m rfl ?_
 refine l_call [] [] [_, _, _, _, _] rfl rfl Tryz.call52 rfl (c_rMost b vm vf day found vs cs9 vq hm hmc o _ (hB.le S122.le) (hF.le S122.le) (hC.le S122.le)) ?_
 rintro _ w123 (⟨e6, hne6, rfl, he6, hl56123⟩ | ⟨hbo6, hten6, rfl, hl56123⟩ | ⟨n6, hbo6, hnt6, hnl6, hP6, hQ6, rfl, hl56123⟩ | ⟨hbo6, hnt6, hQ6, rfl, hl56123⟩)
 ·exact absurd (he6.trans hbo5) hne6
 ·exact absurd hten6 hnt5
 ·exact absurd hP6 (by rw [hQ5 n6 (Nat.le_trans (most_fit (begin_apart9 hbo5) hP6) fit_len)]; simp)
 have S124 := S122.step hl56123
 refine l_m rfl ?_
 refine l_x rfl (x_extract rfl rfl) ?_
 refine l_x rfl (x_extract rfl rfl) ?_
 refine l_a rfl ?_
 refine l_a rfl ?_
 refine l_nil ?_
 refine r_seq ?_
 refine r_region ?_
 refine l_call [] [] [] rfl rfl Tryz.call20 rfl (c_marked _ (hG.le S124.le)) ?_
 rintro _ w125 ⟨rfl, hl127⟩
 have S126 := S124.step hl127
 refine l_m rfl ?_
 refine l_m rfl ?_
 refine l_m rfl ?_
 refine l_x rfl (x_eql rfl rfl) ?_
 refine l_x rfl (x_pick_t rfl rfl) ?_
 refine l_m rfl ?_
 refine l_splitd (d := 65) rfl (fun hg65 => ?_) (fun hg65 => ?_)
 ·skip
  refine l_m rfl ?_
  refine l_m rfl ?_
  refine l_call [] [] [_, _] rfl rfl Tryz.call31 rfl (c_SameIntsT _ _ _ _ (by simp; omega) hcr9 _ (vec_rd (S126.at 1 rfl)) (vec_rd (S126.at 2 rfl))) ?_
  rintro _ w128 ⟨rfl, hl130⟩
  have S129 := S126.step hl130
  refine l_x rfl (x_pick_t rfl rfl) ?_
  refine l_m rfl ?_
  refine l_m rfl ?_
  refine l_m rfl ?_
  refine l_x rfl (x_eql rfl rfl) ?_
  refine l_x rfl (x_pick_t rfl rfl) ?_
  refine l_m rfl ?_
  refine l_splitd (d := 75) rfl (fun hg75 => ?_) (fun hg75 => ?_)
  ·skip
   refine l_m rfl ?_
   refine l_m rfl ?_
   refine l_x rfl (x_eql rfl rfl) ?_
   refine l_x rfl (x_pick_t rfl rfl) ?_
   refine l_a rfl ?_
   refine l_nil ?_
   refine r_ret (rs := [.tmp 10]) [_] Tryz.func12 rfl ⟨rfl, trivial⟩ ?_
   exact ⟨by first | rfl | exact congrArg Value.bool (decide_eq_true rfl), S129.le⟩
  exact absurd rfl hg75
 exact absurd rfl hg65

end Go.Proofs
