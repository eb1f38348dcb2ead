/- Texts joined for claims: LSure. -/
import Derived.Test.YtaigapdghhoncaaGreatDoorK47c3e72892
import Derived.Test.YtaigapdghhoncaaGreatDoorK1cb4167518
set_option linter.unusedVariables false
set_option linter.unusedSimpArgs false
set_option linter.unusedSectionVars false
/-
  Contracts of functions of the program: each by symbolic execution of its text.
-/
namespace Go.Proofs
open Go Go.Vk Go.Vk.Flow

open Go.Vk.Mark
open Go.Vk.Deed (i64 rng rng_iff owners sumI sumI_cons sumI_snoc)

theorem cert_at {b : Sm} {day : Int} {found : List Sg} {cz : List Clm} {i : Nat} {t : Sg} (ht : found[i]? = some t) : (cert (mks b day found cz) cz (cnz b day found cz))[i]? = some (certO cz (cnz b day found cz) (mskP cz (ownersOf b day t))) := by
  unfold cert; rw [List.getElem?_map, mks_at ht]; rfl

set_option maxHeartbeats 4000000 in
/-- couchant/couchantlaw03.MarkSure. -/
theorem lawSure (b : Sm) (vm vf : Value) (day : Int) (found : List Sg) (vs : Value) (cs9 : List Clm) (vq : Value) (hm : found.length ≤ 9223372036854775807) (hmc : cs9.length ≤ 9223372036854775807) (hsg : ∀ t ∈ found, SgOk t) (os : List Int) (vo : Value) (w : World) (hB : SmR 39 41 w vm vf b) (hG : Gl w) (hF : Rd ESG w vs found) (hC : Rd ECL w vq cs9) (hO : Rd EI w vo os) :
    Cl Tryz.prog 11 #[.agg #[vm, vf], Value.int .i64 day, vs, vq, vo] w fun v w' => v = .bool true ∧ Le w w' := by
  have hlm := hB.lm
  have hlf := hB.lf
  refine fn_of_run (args := [_, _, _, _, _]) 163 Tryz.func11 rfl rfl rfl fun cs => ?_
  have S := Own.start (X := nob) w
  refine r_seq ?_
  refine r_region ?_
  refine l_box S rfl rfl ?_
  intro b4 w1 S2 hl3
  refine l_x rfl (x_as rfl) ?_
  refine l_nil ?_
  refine r_seq ?_
  refine r_seq ?_
  refine r_region ?_
  refine l_x rfl (x_fieldAddr rfl Tryz.runUnderlying25 rfl Tryz.sizeOf22 (by decide)) ?_
  refine l_x rfl (x_load rfl (ld_blk (S2.blk 0 rfl) Tryz.isAgg22 rfl)) ?_
  refine l_x rfl (x_len (hB.m.le S2.le) rfl Tryz.runUnderlying22) ?_
  refine l_x rfl (x_gtr rfl rfl) ?_
  refine l_x rfl (x_mv rfl) ?_
  refine l_splitd (d := 24) rfl (fun hg24 => ?_) (fun hg24 => ?_)
  · skip
    refine l_pass rfl ?_
    refine l_pass rfl ?_
    refine l_pass rfl ?_
    refine l_x rfl (x_pick_t rfl rfl) ?_
    refine l_x rfl (x_mv rfl) ?_
    refine l_pass rfl ?_
    refine l_pass rfl ?_
    refine l_pass rfl ?_
    refine l_x rfl (x_pick_t rfl rfl) ?_
    refine l_x rfl (x_mv rfl) ?_
    refine l_pass rfl ?_
    refine l_pass rfl ?_
    refine l_pass rfl ?_
    refine l_x rfl (x_pick_t rfl rfl) ?_
    refine l_nil ?_
    refine r_true rfl ?_
    refine r_seq ?_
    refine r_region ?_
    refine l_call [] [] [] rfl rfl Tryz.call20 rfl (c_marked _ (hG.le S2.le)) ?_
    rintro _ w5 ⟨rfl, hl7⟩
    have S6 := S2.step hl7
    refine l_x rfl (x_as rfl) ?_
    refine l_nil ?_
    refine r_ret (rs := [.tmp 10]) [_] Tryz.func11 rfl ⟨rfl, trivial⟩ ?_
    exact ⟨by first | rfl | exact congrArg Value.bool (decide_eq_true rfl), S6.le⟩
  refine l_x rfl (x_mv rfl) ?_
  refine l_x rfl (x_len (hF.le S2.le) rfl Tryz.runUnderlying50) ?_
  refine l_x rfl (x_gtr rfl rfl) ?_
  refine l_x rfl (x_pick_f rfl rfl) ?_
  refine l_x rfl (x_mv rfl) ?_
  refine l_splitd (d := 29) rfl (fun hg29 => ?_) (fun hg29 => ?_)
  · skip
    refine l_pass rfl ?_
    refine l_pass rfl ?_
    refine l_pass rfl ?_
    refine l_x rfl (x_pick_t rfl rfl) ?_
    refine l_x rfl (x_mv rfl) ?_
    refine l_pass rfl ?_
    refine l_pass rfl ?_
    refine l_pass rfl ?_
    refine l_x rfl (x_pick_t rfl rfl) ?_
    refine l_nil ?_
    refine r_true rfl ?_
    refine r_seq ?_
    refine r_region ?_
    refine l_call [] [] [] rfl rfl Tryz.call20 rfl (c_marked _ (hG.le S2.le)) ?_
    rintro _ w8 ⟨rfl, hl10⟩
    have S9 := S2.step hl10
    refine l_x rfl (x_as rfl) ?_
    refine l_nil ?_
    refine r_ret (rs := [.tmp 10]) [_] Tryz.func11 rfl ⟨rfl, trivial⟩ ?_
    exact ⟨by first | rfl | exact congrArg Value.bool (decide_eq_true rfl), S9.le⟩
  refine l_x rfl (x_mv rfl) ?_
  refine l_x rfl (x_len (hC.le S2.le) rfl Tryz.runUnderlying51) ?_
  refine l_x rfl (x_gtr rfl rfl) ?_
  refine l_x rfl (x_pick_f rfl rfl) ?_
  refine l_x rfl (x_mv rfl) ?_
  refine l_splitd (d := 34) rfl (fun hg34 => ?_) (fun hg34 => ?_)
  · skip
    refine l_pass rfl ?_
    refine l_pass rfl ?_
    refine l_pass rfl ?_
    refine l_x rfl (x_pick_t rfl rfl) ?_
    refine l_nil ?_
    refine r_true rfl ?_
    refine r_seq ?_
    refine r_region ?_
    refine l_call [] [] [] rfl rfl Tryz.call20 rfl (c_marked _ (hG.le S2.le)) ?_
    rintro _ w11 ⟨rfl, hl13⟩
    have S12 := S2.step hl13
    refine l_x rfl (x_as rfl) ?_
    refine l_nil ?_
    refine r_ret (rs := [.tmp 10]) [_] Tryz.func11 rfl ⟨rfl, trivial⟩ ?_
    exact ⟨by first | rfl | exact congrArg Value.bool (decide_eq_true rfl), S12.le⟩
  refine l_x rfl (x_mv rfl) ?_
  refine l_x rfl (x_len (hO.le S2.le) rfl Tryz.runUnderlying52) ?_
  refine l_x rfl (x_gtr rfl rfl) ?_
  refine l_x rfl (x_pick_f rfl rfl) ?_
  refine l_nil ?_
  refine r_ifd rfl (fun hc38 => ?_) (fun hc38 => ?_)
  · skip
    refine r_seq ?_
    refine r_region ?_
    refine l_call [] [] [] rfl rfl Tryz.call20 rfl (c_marked _ (hG.le S2.le)) ?_
    rintro _ w14 ⟨rfl, hl16⟩
    have S15 := S2.step hl16
    refine l_x rfl (x_as rfl) ?_
    refine l_nil ?_
    refine r_ret (rs := [.tmp 10]) [_] Tryz.func11 rfl ⟨rfl, trivial⟩ ?_
    exact ⟨by first | rfl | exact congrArg Value.bool (decide_eq_true rfl), S15.le⟩
  refine r_skip ?_
  refine r_seq ?_
  refine r_region ?_
  refine l_x rfl (x_load rfl (ld_blks (S2.blk 0 rfl) Tryz.isAgg25 Tryz.sizeOf25 rfl rfl)) ?_
  refine l_x rfl (x_mv rfl) ?_
  refine l_x rfl (x_mv rfl) ?_
  refine l_x rfl (x_mv rfl) ?_
  refine l_call [] [] [_, _, _, _] rfl rfl Tryz.call48 rfl (c_Certain b vm vf day found vs cs9 vq hm hmc hsg _ (hB.le S2.le) (hF.le S2.le) (hC.le S2.le)) ?_
  rintro _ w17 (⟨e9, hne9, rfl, he9, hl4517⟩ | ⟨cz9, hb9, hp9, hs9, hc9, rfl, hl4517⟩ | ⟨cz9, c9, hb9, hp9, hs9, hc9, rfl, hN4517, hl4517⟩)
  · skip
    have S18 := S2.step hl4517
    refine l_x rfl (x_mv rfl) ?_
    refine l_x rfl (x_extract rfl rfl) ?_
    refine l_x rfl (x_extract rfl rfl) ?_
    refine l_x rfl (x_as rfl) ?_
    refine l_x rfl (x_as rfl) ?_
    refine l_nil ?_
    refine r_seq ?_
    refine r_region ?_
    refine l_x rfl (x_load rfl (ld_blks (S18.blk 0 rfl) Tryz.isAgg25 Tryz.sizeOf25 rfl rfl)) ?_
    refine l_x rfl (x_mv rfl) ?_
    refine l_x rfl (x_mv rfl) ?_
    refine l_x rfl (x_mv rfl) ?_
    refine l_x rfl (x_mv rfl) ?_
    refine l_call [] [] [_, _, _, _, _] rfl rfl Tryz.call29 rfl (c_MeetsE b vm vf day found vs cs9 vq hm hmc hsg e9 hne9 he9 os vo _ (hB.le S18.le) (hF.le S18.le) (hC.le S18.le) (hO.le S18.le)) ?_
    rintro _ w19 ⟨rfl, hl5419⟩
    have S20 := S18.step hl5419
    refine l_x rfl (x_mv rfl) ?_
    refine l_x rfl (x_extract rfl rfl) ?_
    refine l_x rfl (x_extract rfl rfl) ?_
    refine l_x rfl (x_as rfl) ?_
    refine l_x rfl (x_as rfl) ?_
    refine l_nil ?_
    refine r_seq ?_
    refine r_seq ?_
    refine r_region ?_
    refine l_x rfl (x_mv rfl) ?_
    refine l_x rfl (x_neq rfl rfl) ?_
    refine l_nil ?_
    refine r_ifd rfl (fun hc58 => ?_) (fun hc58 => ?_)
    · skip
      refine r_seq ?_
      refine r_region ?_
      refine l_call [] [] [] rfl rfl Tryz.call20 rfl (c_marked _ (hG.le S20.le)) ?_
      rintro _ w21 ⟨rfl, hl23⟩
      have S22 := S20.step hl23
      refine l_x rfl (x_mv rfl) ?_
      refine l_x rfl (x_mv rfl) ?_
      refine l_x rfl (x_mv rfl) ?_
      refine l_x rfl (x_eql rfl rfl) ?_
      refine l_x rfl (x_mv rfl) ?_
      refine l_splitd (d := 64) rfl (fun hg64 => ?_) (fun hg64 => ?_)
      · skip
        refine l_pass rfl ?_
        refine l_pass rfl ?_
        refine l_pass rfl ?_
        refine l_pass rfl ?_
        refine l_pass rfl ?_
        refine l_pass rfl ?_
        refine l_pass rfl ?_
        refine l_pass rfl ?_
        refine l_pass rfl ?_
        refine l_pass rfl ?_
        refine l_x rfl (x_pick_t rfl rfl) ?_
        refine l_x rfl (x_pick_t rfl rfl) ?_
        refine l_x rfl (x_mv rfl) ?_
        refine l_x rfl (x_mv rfl) ?_
        refine l_x rfl (x_len (rd_nil (E := EI) (w := w)) rfl Tryz.runUnderlying52) ?_
        refine l_x rfl (x_eql rfl rfl) ?_
        refine l_x rfl (x_pick_t rfl rfl) ?_
        refine l_x rfl (x_as rfl) ?_
        refine l_nil ?_
        refine r_ret (rs := [.tmp 10]) [_] Tryz.func11 rfl ⟨rfl, trivial⟩ ?_
        exact ⟨by first | rfl | exact congrArg Value.bool (decide_eq_true rfl), S22.le⟩
      exact absurd rfl hg64
    exact absurd hne9 hc58
  · skip
    have S24 := S2.step hl4517
    refine l_x rfl (x_mv rfl) ?_
    refine l_x rfl (x_extract rfl rfl) ?_
    refine l_x rfl (x_extract rfl rfl) ?_
    refine l_x rfl (x_as rfl) ?_
    refine l_x rfl (x_as rfl) ?_
    refine l_nil ?_
    refine r_seq ?_
    refine r_region ?_
    refine l_x rfl (x_load rfl (ld_blks (S24.blk 0 rfl) Tryz.isAgg25 Tryz.sizeOf25 rfl rfl)) ?_
    refine l_x rfl (x_mv rfl) ?_
    refine l_x rfl (x_mv rfl) ?_
    refine l_x rfl (x_mv rfl) ?_
    refine l_x rfl (x_mv rfl) ?_
    refine l_call [] [] [_, _, _, _, _] rfl rfl Tryz.call29 rfl (c_MeetsF b vm vf day found vs cs9 vq hm hmc hsg cz9 hb9 hp9 hs9 hc9 os vo _ (hB.le S24.le) (hF.le S24.le) (hC.le S24.le) (hO.le S24.le)) ?_
    rintro _ w25 ⟨rfl, hl5425⟩
    have S26 := S24.step hl5425
    refine l_x rfl (x_mv rfl) ?_
    refine l_x rfl (x_extract rfl rfl) ?_
    refine l_x rfl (x_extract rfl rfl) ?_
    refine l_x rfl (x_as rfl) ?_
    refine l_x rfl (x_as rfl) ?_
    refine l_nil ?_
    refine r_seq ?_
    refine r_seq ?_
    refine r_region ?_
    refine l_x rfl (x_mv rfl) ?_
    refine l_x rfl (x_neq rfl rfl) ?_
    refine l_nil ?_
    refine r_ifd rfl (fun hc58 => ?_) (fun hc58 => ?_)
    · skip
      refine r_seq ?_
      refine r_region ?_
      refine l_call [] [] [] rfl rfl Tryz.call20 rfl (c_marked _ (hG.le S26.le)) ?_
      rintro _ w27 ⟨rfl, hl29⟩
      have S28 := S26.step hl29
      refine l_x rfl (x_mv rfl) ?_
      refine l_x rfl (x_mv rfl) ?_
      refine l_x rfl (x_mv rfl) ?_
      refine l_x rfl (x_eql rfl rfl) ?_
      refine l_x rfl (x_mv rfl) ?_
      refine l_splitd (d := 64) rfl (fun hg64 => ?_) (fun hg64 => ?_)
      · exact absurd hg64 (by decide)
      refine l_x rfl (x_mv rfl) ?_
      refine l_x rfl (x_eql rfl rfl) ?_
      refine l_x rfl (x_mv rfl) ?_
      refine l_splitd (d := 67) rfl (fun hg67 => ?_) (fun hg67 => ?_)
      · skip
        refine l_x rfl (x_mv rfl) ?_
        refine l_x rfl (x_eql rfl rfl) ?_
        refine l_x rfl (x_pick_t rfl rfl) ?_
        refine l_x rfl (x_mv rfl) ?_
        refine l_splitd (d := 71) rfl (fun hg71 => ?_) (fun hg71 => ?_)
        · skip
          refine l_x rfl (x_mv rfl) ?_
          refine l_x rfl (x_not rfl) ?_
          refine l_x rfl (x_pick_t rfl rfl) ?_
          refine l_x rfl (x_pick_f rfl rfl) ?_
          refine l_x rfl (x_pick_t rfl rfl) ?_
          refine l_x rfl (x_mv rfl) ?_
          refine l_x rfl (x_mv rfl) ?_
          refine l_x rfl (x_len (rd_nil (E := EI) (w := w)) rfl Tryz.runUnderlying52) ?_
          refine l_x rfl (x_eql rfl rfl) ?_
          refine l_x rfl (x_pick_t rfl rfl) ?_
          refine l_x rfl (x_as rfl) ?_
          refine l_nil ?_
          refine r_ret (rs := [.tmp 10]) [_] Tryz.func11 rfl ⟨rfl, trivial⟩ ?_
          exact ⟨by first | rfl | exact congrArg Value.bool (decide_eq_true rfl), S28.le⟩
        exact absurd rfl hg71
      exact absurd rfl hg67
    exact absurd (by decide) hc58
  have S30 := S2.add hl4517 hN4517
  have hcl9 : (cert (mks b day found cz9) cz9 (cnz b day found cz9)).length = found.length := by simp [cert, mks]
  have hal9 : (asg (mks b day found cz9) cz9 (cnz b day found cz9)).length = found.length := by rw [asg_len, mks_len]
  refine l_x rfl (x_mv rfl) ?_
  refine l_x rfl (x_extract rfl rfl) ?_
  refine l_x rfl (x_extract rfl rfl) ?_
  refine l_x rfl (x_as rfl) ?_
  refine l_x rfl (x_as rfl) ?_
  refine l_nil ?_
  refine r_seq ?_
  refine r_region ?_
  refine l_x rfl (x_load rfl (ld_blks (S30.blk 0 rfl) Tryz.isAgg25 Tryz.sizeOf25 rfl rfl)) ?_
  refine l_x rfl (x_mv rfl) ?_
  refine l_x rfl (x_mv rfl) ?_
  refine l_x rfl (x_mv rfl) ?_
  refine l_x rfl (x_mv rfl) ?_
  refine l_call [] [] [_, _, _, _, _] rfl rfl Tryz.call29 rfl (c_MeetsK b vm vf day found vs cs9 vq hm hmc hsg cz9 hb9 hp9 hs9 os vo _ (hB.le S30.le) (hF.le S30.le) (hC.le S30.le) (hO.le S30.le)) ?_
  rintro _ w31 ⟨rfl, hl5431⟩
  have S32 := S30.step hl5431
  refine l_x rfl (x_mv rfl) ?_
  refine l_x rfl (x_extract rfl rfl) ?_
  refine l_x rfl (x_extract rfl rfl) ?_
  refine l_x rfl (x_as rfl) ?_
  refine l_x rfl (x_as rfl) ?_
  refine l_nil ?_
  refine r_seq ?_
  refine r_seq ?_
  refine r_region ?_
  refine l_x rfl (x_mv rfl) ?_
  refine l_x rfl (x_neq rfl rfl) ?_
  refine l_nil ?_
  refine r_ifd rfl (fun hc58 => ?_) (fun hc58 => ?_)
  · exact absurd rfl hc58
  refine r_skip ?_
  refine r_seq ?_
  refine r_seq ?_
  refine r_region ?_
  refine l_x rfl (x_mv rfl) ?_
  refine l_x rfl (x_neq rfl rfl) ?_
  refine l_x rfl (x_mv rfl) ?_
  refine l_splitd (d := 84) rfl (fun hg84 => ?_) (fun hg84 => ?_)
  · exact absurd rfl hg84
  refine l_x rfl (x_mv rfl) ?_
  refine l_x rfl (x_len (vec_rd (S32.at 1 rfl)) rfl Tryz.runUnderlying52) ?_
  refine l_x rfl (x_mv rfl) ?_
  refine l_x rfl (x_len (hF.le S32.le) rfl Tryz.runUnderlying50) ?_
  refine l_x rfl (x_neq rfl rfl) ?_
  refine l_x rfl (x_pick_f rfl rfl) ?_
  refine l_nil ?_
  refine r_ifd rfl (fun hc90 => ?_) (fun hc90 => ?_)
  · omega
  refine r_skip ?_
  refine r_seq ?_
  refine r_seq ?_
  refine r_region ?_
  refine l_x rfl (x_as rfl) ?_
  refine l_nil ?_
  refine r_block ?_
  refine r_loop (G := Nat) (fun i => found.length - i) (fun i => [(1, Value.int .i64 day), (2, vs), (3, vq), (4, vo), (5, .pointer (some ⟨b4, 0, none⟩)), (11, c9), (13, .bool (meetsM os (mks b day found cz9) cz9)), (15, Value.int .i64 i)]) (fun i w' => (i ≤ found.length) ∧ Own nob w w' [blk b4 [vm, vf] 25, vec EI c9 (cert (mks b day found cz9) cz9 (cnz b day found cz9))]) 0 ⟨rfl, rfl, rfl, rfl, rfl, rfl, rfl, rfl, trivial⟩ ⟨Nat.zero_le _, (S32.pick [0, 1] (by decide) rfl)⟩ ?_
  rintro i ρ w1 ⟨hi, S1⟩ IH
  refine r_seq ?_
  refine r_seq ?_
  refine r_region ?_
  refine l_x rfl (x_mv rfl) ?_
  refine l_x rfl (x_mv rfl) ?_
  refine l_x rfl (x_len (vec_rd (S1.at 1 rfl)) rfl Tryz.runUnderlying52) ?_
  refine l_x rfl (x_lss rfl rfl) ?_
  refine l_x rfl (x_mv rfl) ?_
  refine l_splitd (d := 95) rfl (fun hg95 => ?_) (fun hg95 => ?_)
  · skip
    refine l_x rfl (x_mv rfl) ?_
    refine l_x rfl (x_pick_t rfl rfl) ?_
    refine l_nil ?_
    refine r_if rfl (fun hc97 => ?_) (fun hc97 => ?_)
    · skip
      obtain ⟨t, ht⟩ : ∃ t, found[i]? = some t := ⟨_, List.getElem?_eq_getElem (by omega)⟩
      have hci := cert_at (cz := cz9) (day := day) (b := b) ht
      have hok : meetsM os (mks b day found cz9) cz9 = true := by simpa using hc97
      have hol : os.length = found.length := by have h := hok; unfold meetsM at h; rw [Bool.and_eq_true, decide_eq_true_eq, mks_len] at h; exact h.1
      obtain ⟨x, hx⟩ : ∃ x, os[i]? = some x := ⟨_, List.getElem?_eq_getElem (by omega)⟩
      refine r_skip ?_
      refine r_seq ?_
      refine r_block ?_
      refine r_seq ?_
      refine r_drawR 16 Tryz.mixed (by kernel_rfl) ?_
      refine w_x rfl (fun w1 h1 => x_mv rfl) ?_
      refine w_x rfl (fun w1 h1 => x_mv rfl) ?_
      refine w_index EI rfl (vec_rd (S1.at 1 rfl)) rfl rfl Tryz.runUnderlying52 Tryz.sizeOf3 (by omega) hci ?_
      intro b33 o34 hat35 row36
      refine w_x rfl (fun w1 h1 => x_load rfl (ld_cell Tryz.isAgg3 ((row36.le h1) 0 _ rfl))) ?_
      refine w_x rfl (fun w1 h1 => x_neq rfl rfl) ?_
      refine w_x rfl (fun w1 h1 => x_mv rfl) ?_
      refine w_splitd (d := 105) rfl (fun hg105 => ?_) (fun hg105 => ?_)
      · skip
        refine w_x rfl (fun w1 h1 => x_mv rfl) ?_
        refine w_x rfl (fun w1 h1 => x_mv rfl) ?_
        refine w_index EI rfl (hO.le S1.le) rfl rfl Tryz.runUnderlying52 Tryz.sizeOf3 (by omega) hx ?_
        intro b37 o38 hat39 row40
        refine w_x rfl (fun w1 h1 => x_load rfl (ld_cell Tryz.isAgg3 ((row40.le h1) 0 _ rfl))) ?_
        refine w_x rfl (fun w1 h1 => x_mv rfl) ?_
        refine w_x rfl (fun w1 h1 => x_mv rfl) ?_
        refine w_index EI rfl (vec_rd (S1.at 1 rfl)) rfl rfl Tryz.runUnderlying52 Tryz.sizeOf3 (by omega) hci ?_
        intro b41 o42 hat43 row44
        refine w_x rfl (fun w1 h1 => x_load rfl (ld_cell Tryz.isAgg3 ((row44.le h1) 0 _ rfl))) ?_
        refine w_x rfl (fun w1 h1 => x_neq rfl rfl) ?_
        refine w_x rfl (fun w1 h1 => x_pick_t rfl rfl) ?_
        refine w_nil ?_
        intro w45 hl46
        have S47 := S1.step hl46
        refine l_nil ?_
        refine r_ifd rfl (fun hc115 => ?_) (fun hc115 => ?_)
        · exact absurd (sure_is hb9 hp9 hok ht hx hg105) hc115
        refine r_skip ?_
        refine r_inBlock ?_
        refine r_region ?_
        refine l_x rfl (x_mv rfl) ?_
        refine l_x rfl (x_add rfl rfl (by omega)) ?_
        refine l_x rfl (x_as rfl) ?_
        refine l_nil ?_
        exact IH (i + 1) _ _ (by omega) ⟨rfl, rfl, rfl, rfl, rfl, rfl, rfl, rfl, trivial⟩ ⟨by omega, (S47.take 2)⟩
      refine w_pass rfl ?_
      refine w_pass rfl ?_
      refine w_pass rfl ?_
      refine w_pass rfl ?_
      refine w_pass rfl ?_
      refine w_pass rfl ?_
      refine w_pass rfl ?_
      refine w_pass rfl ?_
      refine w_pass rfl ?_
      refine w_x rfl (fun w1 h1 => x_pick_f rfl rfl) ?_
      refine w_nil ?_
      intro w48 hl49
      have S50 := S1.step hl49
      refine l_nil ?_
      refine r_false rfl ?_
      refine r_skip ?_
      refine r_inBlock ?_
      refine r_region ?_
      refine l_x rfl (x_mv rfl) ?_
      refine l_x rfl (x_add rfl rfl (by omega)) ?_
      refine l_x rfl (x_as rfl) ?_
      refine l_nil ?_
      exact IH (i + 1) _ _ (by omega) ⟨rfl, rfl, rfl, rfl, rfl, rfl, rfl, rfl, trivial⟩ ⟨by omega, (S50.take 2)⟩
    refine r_exit rfl ?_
    refine r_seq ?_
    refine r_region ?_
    refine l_x rfl (x_load rfl (ld_blks (S1.blk 0 rfl) Tryz.isAgg25 Tryz.sizeOf25 rfl rfl)) ?_
    refine l_x rfl (x_mv rfl) ?_
    refine l_x rfl (x_mv rfl) ?_
    refine l_x rfl (x_mv rfl) ?_
    refine l_call [] [] [_, _, _, _] rfl rfl Tryz.call27 rfl (c_AssignT b vm vf day found vs cs9 vq hm hmc hsg cz9 hb9 hp9 hs9 hc9 _ (hB.le S1.le) (hF.le S1.le) (hC.le S1.le)) ?_
    rintro _ w51 ⟨x9, rfl, hN12151, hl12151⟩
    have S52 := S1.add hl12151 hN12151
    refine l_x rfl (x_mv rfl) ?_
    refine l_x rfl (x_extract rfl rfl) ?_
    refine l_x rfl (x_extract rfl rfl) ?_
    refine l_x rfl (x_extract rfl rfl) ?_
    refine l_x rfl (x_as rfl) ?_
    refine l_x rfl (x_as rfl) ?_
    refine l_x rfl (x_as rfl) ?_
    refine l_nil ?_
    refine r_seq ?_
    refine r_seq ?_
    refine r_region ?_
    refine l_x rfl (x_mv rfl) ?_
    refine l_x rfl (x_neq rfl rfl) ?_
    refine l_x rfl (x_mv rfl) ?_
    refine l_splitd (d := 127) rfl (fun hg127 => ?_) (fun hg127 => ?_)
    · exact absurd rfl hg127
    refine l_x rfl (x_mv rfl) ?_
    refine l_x rfl (x_not rfl) ?_
    refine l_x rfl (x_pick_f rfl rfl) ?_
    refine l_nil ?_
    refine r_false rfl ?_
    refine r_skip ?_
    refine r_seq ?_
    refine r_seq ?_
    refine r_region ?_
    refine l_x rfl (x_as rfl) ?_
    refine l_nil ?_
    refine r_block ?_
    refine r_loop (G := Nat) (fun i => found.length - i) (fun i => [(1, Value.int .i64 day), (2, vs), (3, vq), (4, vo), (5, .pointer (some ⟨b4, 0, none⟩)), (11, c9), (13, .bool (meetsM os (mks b day found cz9) cz9)), (16, x9), (19, Value.int .i64 i)]) (fun i w' => (i ≤ found.length) ∧ Own nob w w' [blk b4 [vm, vf] 25, vec EI c9 (cert (mks b day found cz9) cz9 (cnz b day found cz9)), vec EI x9 (asg (mks b day found cz9) cz9 (cnz b day found cz9))]) 0 ⟨rfl, rfl, rfl, rfl, rfl, rfl, rfl, rfl, rfl, trivial⟩ ⟨Nat.zero_le _, (S52.pick [0, 1, 2] (by decide) rfl)⟩ ?_
    rintro i ρ w1b ⟨hi, S1b⟩ IHb
    refine r_seq ?_
    refine r_seq ?_
    refine r_region ?_
    refine l_x rfl (x_mv rfl) ?_
    refine l_x rfl (x_mv rfl) ?_
    refine l_x rfl (x_len (vec_rd (S1b.at 1 rfl)) rfl Tryz.runUnderlying52) ?_
    refine l_x rfl (x_lss rfl rfl) ?_
    refine l_nil ?_
    refine r_ifd rfl (fun hc134 => ?_) (fun hc134 => ?_)
    · skip
      obtain ⟨t, ht⟩ : ∃ t, found[i]? = some t := ⟨_, List.getElem?_eq_getElem (by omega)⟩
      have hci := cert_at (cz := cz9) (day := day) (b := b) ht
      obtain ⟨x, hx⟩ : ∃ x, (asg (mks b day found cz9) cz9 (cnz b day found cz9))[i]? = some x := ⟨_, List.getElem?_eq_getElem (by omega)⟩
      refine r_skip ?_
      refine r_seq ?_
      refine r_block ?_
      refine r_seq ?_
      refine r_drawR 25 Tryz.mixed (by kernel_rfl) ?_
      refine w_x rfl (fun w1 h1 => x_mv rfl) ?_
      refine w_x rfl (fun w1 h1 => x_mv rfl) ?_
      refine w_index EI rfl (vec_rd (S1b.at 1 rfl)) rfl rfl Tryz.runUnderlying52 Tryz.sizeOf3 (by omega) hci ?_
      intro b53 o54 hat55 row56
      refine w_x rfl (fun w1 h1 => x_load rfl (ld_cell Tryz.isAgg3 ((row56.le h1) 0 _ rfl))) ?_
      refine w_x rfl (fun w1 h1 => x_eql rfl rfl) ?_
      refine w_x rfl (fun w1 h1 => x_mv rfl) ?_
      refine w_splitd (d := 142) rfl (fun hg142 => ?_) (fun hg142 => ?_)
      · skip
        refine w_x rfl (fun w1 h1 => x_mv rfl) ?_
        refine w_x rfl (fun w1 h1 => x_mv rfl) ?_
        refine w_index EI rfl (vec_rd (S1b.at 2 rfl)) rfl rfl Tryz.runUnderlying52 Tryz.sizeOf3 (by omega) hx ?_
        intro b57 o58 hat59 row60
        refine w_x rfl (fun w1 h1 => x_load rfl (ld_cell Tryz.isAgg3 ((row60.le h1) 0 _ rfl))) ?_
        refine w_x rfl (fun w1 h1 => x_neq rfl rfl) ?_
        refine w_x rfl (fun w1 h1 => x_pick_t rfl rfl) ?_
        refine w_x rfl (fun w1 h1 => x_mv rfl) ?_
        refine w_splitd (d := 149) rfl (fun hg149 => ?_) (fun hg149 => ?_)
        · skip
          have hxn : x ≠ 0 := hg149
          have hcz := hg142
          refine w_x rfl (fun w1 h1 => x_load rfl (ld_blks ((S1b.step h1).blk 0 rfl) Tryz.isAgg25 Tryz.sizeOf25 rfl rfl)) ?_
          refine w_x rfl (fun w1 h1 => x_mv rfl) ?_
          refine w_x rfl (fun w1 h1 => x_mv rfl) ?_
          refine w_x rfl (fun w1 h1 => x_mv rfl) ?_
          refine w_x rfl (fun w1 h1 => x_mv rfl) ?_
          refine w_x rfl (fun w1 h1 => x_mv rfl) ?_
          refine w_x rfl (fun w1 h1 => x_mv rfl) ?_
          refine w_index EI rfl (vec_rd (S1b.at 2 rfl)) rfl rfl Tryz.runUnderlying52 Tryz.sizeOf3 (by omega) hx ?_
          intro b61 o62 hat63 row64
          refine w_x rfl (fun w1 h1 => x_load rfl (ld_cell Tryz.isAgg3 ((row64.le h1) 0 _ rfl))) ?_
          refine wd_call [] [] [_, _, _, _, _, _] rfl rfl Tryz.call49 rfl (fun w1 h1 => c_without b vm vf day found vs cs9 vq hm hmc hsg cz9 hb9 hp9 hs9 i x t ht (sure_rest hb9 hp9 (bench_asg hb9 hp9 hc9) ht hx hxn hcz) _ (hB.le (S1b.step h1).le) (hF.le (S1b.step h1).le) (hC.le (S1b.step h1).le)) ?_
          refine w_x rfl (fun w1 h1 => x_not rfl) ?_
          refine w_x rfl (fun w1 h1 => x_pick_t rfl rfl) ?_
          refine w_nil ?_
          intro w65 hl66
          have S67 := S1b.step hl66
          refine l_nil ?_
          refine r_false rfl ?_
          refine r_skip ?_
          refine r_inBlock ?_
          refine r_region ?_
          refine l_x rfl (x_mv rfl) ?_
          refine l_x rfl (x_add rfl rfl (by omega)) ?_
          refine l_x rfl (x_as rfl) ?_
          refine l_nil ?_
          exact IHb (i + 1) _ _ (by omega) ⟨rfl, rfl, rfl, rfl, rfl, rfl, rfl, rfl, rfl, trivial⟩ ⟨by omega, (S67.take 3)⟩
        refine w_pass rfl ?_
        refine w_pass rfl ?_
        refine w_pass rfl ?_
        refine w_pass rfl ?_
        refine w_pass rfl ?_
        refine w_pass rfl ?_
        refine w_pass rfl ?_
        refine w_pass rfl ?_
        refine w_pass rfl ?_
        refine w_pass rfl ?_
        refine w_pass rfl ?_
        refine w_x rfl (fun w1 h1 => x_pick_f rfl rfl) ?_
        refine w_nil ?_
        intro w68 hl69
        have S70 := S1b.step hl69
        refine l_nil ?_
        refine r_false rfl ?_
        refine r_skip ?_
        refine r_inBlock ?_
        refine r_region ?_
        refine l_x rfl (x_mv rfl) ?_
        refine l_x rfl (x_add rfl rfl (by omega)) ?_
        refine l_x rfl (x_as rfl) ?_
        refine l_nil ?_
        exact IHb (i + 1) _ _ (by omega) ⟨rfl, rfl, rfl, rfl, rfl, rfl, rfl, rfl, rfl, trivial⟩ ⟨by omega, (S70.take 3)⟩
      refine w_pass rfl ?_
      refine w_pass rfl ?_
      refine w_pass rfl ?_
      refine w_pass rfl ?_
      refine w_pass rfl ?_
      refine w_x rfl (fun w1 h1 => x_pick_f rfl rfl) ?_
      refine w_x rfl (fun w1 h1 => x_mv rfl) ?_
      refine w_pass rfl ?_
      refine w_pass rfl ?_
      refine w_pass rfl ?_
      refine w_pass rfl ?_
      refine w_pass rfl ?_
      refine w_pass rfl ?_
      refine w_pass rfl ?_
      refine w_pass rfl ?_
      refine w_pass rfl ?_
      refine w_pass rfl ?_
      refine w_pass rfl ?_
      refine w_x rfl (fun w1 h1 => x_pick_f rfl rfl) ?_
      refine w_nil ?_
      intro w71 hl72
      have S73 := S1b.step hl72
      refine l_nil ?_
      refine r_false rfl ?_
      refine r_skip ?_
      refine r_inBlock ?_
      refine r_region ?_
      refine l_x rfl (x_mv rfl) ?_
      refine l_x rfl (x_add rfl rfl (by omega)) ?_
      refine l_x rfl (x_as rfl) ?_
      refine l_nil ?_
      exact IHb (i + 1) _ _ (by omega) ⟨rfl, rfl, rfl, rfl, rfl, rfl, rfl, rfl, rfl, trivial⟩ ⟨by omega, (S73.take 3)⟩
    refine r_exit rfl ?_
    refine r_seq ?_
    refine r_region ?_
    refine l_call [] [] [] rfl rfl Tryz.call20 rfl (c_marked _ (hG.le S1b.le)) ?_
    rintro _ w74 ⟨rfl, hl76⟩
    have S75 := S1b.step hl76
    refine l_x rfl (x_as rfl) ?_
    refine l_nil ?_
    refine r_ret (rs := [.tmp 10]) [_] Tryz.func11 rfl ⟨rfl, trivial⟩ ?_
    exact ⟨by first | rfl | exact congrArg Value.bool (decide_eq_true rfl), S75.le⟩
  refine l_pass rfl ?_
  refine l_x rfl (x_pick_f rfl rfl) ?_
  refine l_nil ?_
  refine r_false rfl ?_
  refine r_exit rfl ?_
  refine r_seq ?_
  refine r_region ?_
  refine l_x rfl (x_load rfl (ld_blks (S1.blk 0 rfl) Tryz.isAgg25 Tryz.sizeOf25 rfl rfl)) ?_
  refine l_x rfl (x_mv rfl) ?_
  refine l_x rfl (x_mv rfl) ?_
  refine l_x rfl (x_mv rfl) ?_
  refine l_call [] [] [_, _, _, _] rfl rfl Tryz.call27 rfl (c_AssignT b vm vf day found vs cs9 vq hm hmc hsg cz9 hb9 hp9 hs9 hc9 _ (hB.le S1.le) (hF.le S1.le) (hC.le S1.le)) ?_
  rintro _ w77 ⟨x9, rfl, hN12177, hl12177⟩
  have S78 := S1.add hl12177 hN12177
  refine l_x rfl (x_mv rfl) ?_
  refine l_x rfl (x_extract rfl rfl) ?_
  refine l_x rfl (x_extract rfl rfl) ?_
  refine l_x rfl (x_extract rfl rfl) ?_
  refine l_x rfl (x_as rfl) ?_
  refine l_x rfl (x_as rfl) ?_
  refine l_x rfl (x_as rfl) ?_
  refine l_nil ?_
  refine r_seq ?_
  refine r_seq ?_
  refine r_region ?_
  refine l_x rfl (x_mv rfl) ?_
  refine l_x rfl (x_neq rfl rfl) ?_
  refine l_x rfl (x_mv rfl) ?_
  refine l_splitd (d := 127) rfl (fun hg127 => ?_) (fun hg127 => ?_)
  · exact absurd rfl hg127
  refine l_x rfl (x_mv rfl) ?_
  refine l_x rfl (x_not rfl) ?_
  refine l_x rfl (x_pick_f rfl rfl) ?_
  refine l_nil ?_
  refine r_false rfl ?_
  refine r_skip ?_
  refine r_seq ?_
  refine r_seq ?_
  refine r_region ?_
  refine l_x rfl (x_as rfl) ?_
  refine l_nil ?_
  refine r_block ?_
  refine r_loop (G := Nat) (fun i => found.length - i) (fun i => [(1, Value.int .i64 day), (2, vs), (3, vq), (4, vo), (5, .pointer (some ⟨b4, 0, none⟩)), (11, c9), (13, .bool (meetsM os (mks b day found cz9) cz9)), (16, x9), (19, Value.int .i64 i)]) (fun i w' => (i ≤ found.length) ∧ Own nob w w' [blk b4 [vm, vf] 25, vec EI c9 (cert (mks b day found cz9) cz9 (cnz b day found cz9)), vec EI x9 (asg (mks b day found cz9) cz9 (cnz b day found cz9))]) 0 ⟨rfl, rfl, rfl, rfl, rfl, rfl, rfl, rfl, rfl, trivial⟩ ⟨Nat.zero_le _, (S78.pick [0, 1, 2] (by decide) rfl)⟩ ?_
  rintro i ρ w1b ⟨hi, S1b⟩ IHb
  refine r_seq ?_
  refine r_seq ?_
  refine r_region ?_
  refine l_x rfl (x_mv rfl) ?_
  refine l_x rfl (x_mv rfl) ?_
  refine l_x rfl (x_len (vec_rd (S1b.at 1 rfl)) rfl Tryz.runUnderlying52) ?_
  refine l_x rfl (x_lss rfl rfl) ?_
  refine l_nil ?_
  refine r_ifd rfl (fun hc134 => ?_) (fun hc134 => ?_)
  · skip
    obtain ⟨t, ht⟩ : ∃ t, found[i]? = some t := ⟨_, List.getElem?_eq_getElem (by omega)⟩
    have hci := cert_at (cz := cz9) (day := day) (b := b) ht
    obtain ⟨x, hx⟩ : ∃ x, (asg (mks b day found cz9) cz9 (cnz b day found cz9))[i]? = some x := ⟨_, List.getElem?_eq_getElem (by omega)⟩
    refine r_skip ?_
    refine r_seq ?_
    refine r_block ?_
    refine r_seq ?_
    refine r_drawR 25 Tryz.mixed (by kernel_rfl) ?_
    refine w_x rfl (fun w1 h1 => x_mv rfl) ?_
    refine w_x rfl (fun w1 h1 => x_mv rfl) ?_
    refine w_index EI rfl (vec_rd (S1b.at 1 rfl)) rfl rfl Tryz.runUnderlying52 Tryz.sizeOf3 (by omega) hci ?_
    intro b79 o80 hat81 row82
    refine w_x rfl (fun w1 h1 => x_load rfl (ld_cell Tryz.isAgg3 ((row82.le h1) 0 _ rfl))) ?_
    refine w_x rfl (fun w1 h1 => x_eql rfl rfl) ?_
    refine w_x rfl (fun w1 h1 => x_mv rfl) ?_
    refine w_splitd (d := 142) rfl (fun hg142 => ?_) (fun hg142 => ?_)
    · skip
      refine w_x rfl (fun w1 h1 => x_mv rfl) ?_
      refine w_x rfl (fun w1 h1 => x_mv rfl) ?_
      refine w_index EI rfl (vec_rd (S1b.at 2 rfl)) rfl rfl Tryz.runUnderlying52 Tryz.sizeOf3 (by omega) hx ?_
      intro b83 o84 hat85 row86
      refine w_x rfl (fun w1 h1 => x_load rfl (ld_cell Tryz.isAgg3 ((row86.le h1) 0 _ rfl))) ?_
      refine w_x rfl (fun w1 h1 => x_neq rfl rfl) ?_
      refine w_x rfl (fun w1 h1 => x_pick_t rfl rfl) ?_
      refine w_x rfl (fun w1 h1 => x_mv rfl) ?_
      refine w_splitd (d := 149) rfl (fun hg149 => ?_) (fun hg149 => ?_)
      · skip
        have hxn : x ≠ 0 := hg149
        have hcz := hg142
        refine w_x rfl (fun w1 h1 => x_load rfl (ld_blks ((S1b.step h1).blk 0 rfl) Tryz.isAgg25 Tryz.sizeOf25 rfl rfl)) ?_
        refine w_x rfl (fun w1 h1 => x_mv rfl) ?_
        refine w_x rfl (fun w1 h1 => x_mv rfl) ?_
        refine w_x rfl (fun w1 h1 => x_mv rfl) ?_
        refine w_x rfl (fun w1 h1 => x_mv rfl) ?_
        refine w_x rfl (fun w1 h1 => x_mv rfl) ?_
        refine w_x rfl (fun w1 h1 => x_mv rfl) ?_
        refine w_index EI rfl (vec_rd (S1b.at 2 rfl)) rfl rfl Tryz.runUnderlying52 Tryz.sizeOf3 (by omega) hx ?_
        intro b87 o88 hat89 row90
        refine w_x rfl (fun w1 h1 => x_load rfl (ld_cell Tryz.isAgg3 ((row90.le h1) 0 _ rfl))) ?_
        refine wd_call [] [] [_, _, _, _, _, _] rfl rfl Tryz.call49 rfl (fun w1 h1 => c_without b vm vf day found vs cs9 vq hm hmc hsg cz9 hb9 hp9 hs9 i x t ht (sure_rest hb9 hp9 (bench_asg hb9 hp9 hc9) ht hx hxn hcz) _ (hB.le (S1b.step h1).le) (hF.le (S1b.step h1).le) (hC.le (S1b.step h1).le)) ?_
        refine w_x rfl (fun w1 h1 => x_not rfl) ?_
        refine w_x rfl (fun w1 h1 => x_pick_t rfl rfl) ?_
        refine w_nil ?_
        intro w91 hl92
        have S93 := S1b.step hl92
        refine l_nil ?_
        refine r_false rfl ?_
        refine r_skip ?_
        refine r_inBlock ?_
        refine r_region ?_
        refine l_x rfl (x_mv rfl) ?_
        refine l_x rfl (x_add rfl rfl (by omega)) ?_
        refine l_x rfl (x_as rfl) ?_
        refine l_nil ?_
        exact IHb (i + 1) _ _ (by omega) ⟨rfl, rfl, rfl, rfl, rfl, rfl, rfl, rfl, rfl, trivial⟩ ⟨by omega, (S93.take 3)⟩
      refine w_pass rfl ?_
      refine w_pass rfl ?_
      refine w_pass rfl ?_
      refine w_pass rfl ?_
      refine w_pass rfl ?_
      refine w_pass rfl ?_
      refine w_pass rfl ?_
      refine w_pass rfl ?_
      refine w_pass rfl ?_
      refine w_pass rfl ?_
      refine w_pass rfl ?_
      refine w_x rfl (fun w1 h1 => x_pick_f rfl rfl) ?_
      refine w_nil ?_
      intro w94 hl95
      have S96 := S1b.step hl95
      refine l_nil ?_
      refine r_false rfl ?_
      refine r_skip ?_
      refine r_inBlock ?_
      refine r_region ?_
      refine l_x rfl (x_mv rfl) ?_
      refine l_x rfl (x_add rfl rfl (by omega)) ?_
      refine l_x rfl (x_as rfl) ?_
      refine l_nil ?_
      exact IHb (i + 1) _ _ (by omega) ⟨rfl, rfl, rfl, rfl, rfl, rfl, rfl, rfl, rfl, trivial⟩ ⟨by omega, (S96.take 3)⟩
    refine w_pass rfl ?_
    refine w_pass rfl ?_
    refine w_pass rfl ?_
    refine w_pass rfl ?_
    refine w_pass rfl ?_
    refine w_x rfl (fun w1 h1 => x_pick_f rfl rfl) ?_
    refine w_x rfl (fun w1 h1 => x_mv rfl) ?_
    refine w_pass rfl ?_
    refine w_pass rfl ?_
    refine w_pass rfl ?_
    refine w_pass rfl ?_
    refine w_pass rfl ?_
    refine w_pass rfl ?_
    refine w_pass rfl ?_
    refine w_pass rfl ?_
    refine w_pass rfl ?_
    refine w_pass rfl ?_
    refine w_pass rfl ?_
    refine w_x rfl (fun w1 h1 => x_pick_f rfl rfl) ?_
    refine w_nil ?_
    intro w97 hl98
    have S99 := S1b.step hl98
    refine l_nil ?_
    refine r_false rfl ?_
    refine r_skip ?_
    refine r_inBlock ?_
    refine r_region ?_
    refine l_x rfl (x_mv rfl) ?_
    refine l_x rfl (x_add rfl rfl (by omega)) ?_
    refine l_x rfl (x_as rfl) ?_
    refine l_nil ?_
    exact IHb (i + 1) _ _ (by omega) ⟨rfl, rfl, rfl, rfl, rfl, rfl, rfl, rfl, rfl, trivial⟩ ⟨by omega, (S99.take 3)⟩
  refine r_exit rfl ?_
  refine r_seq ?_
  refine r_region ?_
  refine l_call [] [] [] rfl rfl Tryz.call20 rfl (c_marked _ (hG.le S1b.le)) ?_
  rintro _ w100 ⟨rfl, hl102⟩
  have S101 := S1b.step hl102
  refine l_x rfl (x_as rfl) ?_
  refine l_nil ?_
  refine r_ret (rs := [.tmp 10]) [_] Tryz.func11 rfl ⟨rfl, trivial⟩ ?_
  exact ⟨by first | rfl | exact congrArg Value.bool (decide_eq_true rfl), S101.le⟩

end Go.Proofs
