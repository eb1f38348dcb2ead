/- Texts joined for claims: LNobody. -/
import Derived.Test.YtaigapdghhoncaaGreatDoorK8a0fe47e94
import Derived.Test.YtaigapdghhoncaaGreatDoorK4937e3a03b
import Derived.Test.YtaigapdghhoncaaGreatDoorK8457264cc1
import Derived.Test.YtaigapdghhoncaaGreatDoorK0d4e033ce2
set_option linter.unusedVariables false
set_option linter.unusedSimpArgs false
set_option linter.unusedSectionVars false
/-
  Contracts of functions of the program: each by symbolic execution of its text.
-/
namespace Go.Proofs
open Go Go.Vk Go.Vk.Flow

open Go.Vk.Mark
open Go.Vk.Deed (i64 rng rng_iff owners sumI sumI_cons sumI_snoc)

set_option maxHeartbeats 4000000 in
/-- couchant/couchantlaw03.MarkNobody. -/
theorem lawNobody (b : Sm) (vm vf : Value) (day o : Int) (hd64 : B64 day) (ho64 : B64 o) (w : World) (hB : SmR 39 41 w vm vf b) (hG : Gl w) :
    Cl Tryz.prog 7 #[.agg #[vm, vf], Value.int .i64 day, Value.int .i64 o] w fun v w' => v = .bool true ∧ Le w w' := by
  have hlm := hB.lm
  have hlf := hB.lf
  refine fn_of_run (args := [_, _, _]) 116 Tryz.func7 rfl rfl rfl fun cs => ?_
  have S := Own.start (X := nob) w
  refine r_seq ?_
  refine r_region ?_
  refine l_box S rfl rfl ?_
  intro b4 w1 S2 hl3
  refine l_x rfl (x_as rfl) ?_
  refine l_nil ?_
  refine r_seq ?_
  refine r_seq ?_
  refine r_region ?_
  refine l_x rfl (x_fieldAddr rfl Tryz.runUnderlying25 rfl Tryz.sizeOf22 (by decide)) ?_
  refine l_x rfl (x_load rfl (ld_blk (S2.blk 0 rfl) Tryz.isAgg22 rfl)) ?_
  refine l_x rfl (x_len (hB.m.le S2.le) rfl Tryz.runUnderlying22) ?_
  refine l_x rfl (x_gtr rfl rfl) ?_
  refine l_nil ?_
  refine r_ifd rfl (fun hc21 => ?_) (fun hc21 => ?_)
  · skip
    refine r_seq ?_
    refine r_region ?_
    refine l_call [] [] [] rfl rfl Tryz.call20 rfl (c_marked _ (hG.le S2.le)) ?_
    rintro _ w5 ⟨rfl, hl7⟩
    have S6 := S2.step hl7
    refine l_x rfl (x_as rfl) ?_
    refine l_nil ?_
    refine r_ret (rs := [.tmp 6]) [_] Tryz.func7 rfl ⟨rfl, trivial⟩ ?_
    exact ⟨rfl, S6.le⟩
  refine r_skip ?_
  refine r_seq ?_
  refine r_region ?_
  refine l_x rfl (x_load rfl (ld_blks (S2.blk 0 rfl) Tryz.isAgg25 Tryz.sizeOf25 rfl rfl)) ?_
  refine l_x rfl (x_mv rfl) ?_
  refine l_call [] [] [_, _] rfl rfl Tryz.call21 rfl (c_Free b vm vf day _ (hB.le S2.le)) ?_
  rintro _ w8 (⟨x1, hx1, rfl, hqx1, hl268⟩ | ⟨n1, rfl, ho1, hf1, hl268⟩ | ⟨rfl, ho1, hf1, hl268⟩)
  · skip
    have S9 := S2.step hl268
    refine l_x rfl (x_mv rfl) ?_
    refine l_x rfl (x_extract rfl rfl) ?_
    refine l_x rfl (x_extract rfl rfl) ?_
    refine l_alloc S9 rfl Tryz.zeroValue30 rfl ?_
    intro b13 w10 S11 hl12
    refine l_stores (vs := [_, _, _, _, _, _]) S11 1 rfl rfl rfl rfl (ones_cons rfl (ones_cons rfl (ones_cons rfl (ones_cons rfl (ones_cons rfl (ones_cons rfl ones_nil)))))) Tryz.sizeOf30 (by first | exact Nat.le_refl _ | simp) (splice_all rfl) ?_
    intro w14 S15 hk16
    refine l_x rfl (x_as rfl) ?_
    refine l_nil ?_
    refine r_seq ?_
    refine r_seq ?_
    refine r_region ?_
    refine l_x rfl (x_mv rfl) ?_
    refine l_x rfl (x_neq rfl rfl) ?_
    refine l_nil ?_
    refine r_ifd rfl (fun hc30 => ?_) (fun hc30 => ?_)
    · skip
      refine r_seq ?_
      refine r_region ?_
      refine l_call [] [] [] rfl rfl Tryz.call20 rfl (c_marked _ (hG.le S15.le)) ?_
      rintro _ w17 ⟨rfl, hl19⟩
      have S18 := S15.step hl19
      refine l_x rfl (x_mv rfl) ?_
      refine l_x rfl (x_load rfl (ld_blks (S18.blk 1 rfl) Tryz.isAgg30 Tryz.sizeOf30 rfl rfl)) ?_
      refine l_x rfl (x_buildS (out := [_, _, _, _, _, _]) (ss := [6]) Tryz.zeroValue30 rfl Tryz.runUnderlying30 ⟨Tryz.sizeOf28, trivial⟩ fill_nil) ?_
      refine l_x rfl (x_eqS (b := zeroSg) keySi ex_zok ex_zok rfl rfl) ?_
      refine l_x rfl (x_pick_t rfl rfl) ?_
      refine l_x rfl (x_as rfl) ?_
      refine l_nil ?_
      refine r_ret (rs := [.tmp 6]) [_] Tryz.func7 rfl ⟨rfl, trivial⟩ ?_
      exact ⟨congrArg Value.bool (decide_eq_true rfl), S18.le⟩
    exact absurd hx1 hc30
  · skip
    have S20 := S2.step hl268
    refine l_x rfl (x_mv rfl) ?_
    refine l_x rfl (x_extract rfl rfl) ?_
    refine l_x rfl (x_extract rfl rfl) ?_
    refine l_alloc S20 rfl Tryz.zeroValue30 rfl ?_
    intro b24 w21 S22 hl23
    refine l_stores (vs := [_, _, _, _, _, _]) S22 1 rfl rfl rfl rfl (ones_cons rfl (ones_cons rfl (ones_cons rfl (ones_cons rfl (ones_cons rfl (ones_cons rfl ones_nil)))))) Tryz.sizeOf30 (by first | exact Nat.le_refl _ | simp) (splice_all rfl) ?_
    intro w25 S26 hk27
    refine l_x rfl (x_as rfl) ?_
    refine l_nil ?_
    refine r_seq ?_
    refine r_seq ?_
    refine r_region ?_
    refine l_x rfl (x_mv rfl) ?_
    refine l_x rfl (x_neq rfl rfl) ?_
    refine l_nil ?_
    refine r_ifd rfl (fun hc30 => ?_) (fun hc30 => ?_)
    · exact absurd rfl hc30
    have hfb := freeN_free hf1
    have hfl := force_len9 ho1
    refine r_skip ?_
    refine r_seq ?_
    refine r_region ?_
    refine l_x rfl (x_load rfl (ld_blks (S26.blk 0 rfl) Tryz.isAgg25 Tryz.sizeOf25 rfl rfl)) ?_
    refine l_x rfl (x_mv rfl) ?_
    refine l_call [] [] [_, _] rfl rfl Tryz.call32 rfl (c_InForce b vm vf day _ (hB.le S26.le)) ?_
    rintro _ w28 (⟨x2, hx2, rfl, hqx2, hl4028⟩ | ⟨vl, rfl, ho2, hN4028, hl4028⟩)
    · exact absurd (hqx2.trans ho1) hx2
    have S29 := S26.add hl4028 hN4028
    refine l_x rfl (x_mv rfl) ?_
    refine l_x rfl (x_extract rfl rfl) ?_
    refine l_x rfl (x_extract rfl rfl) ?_
    refine l_x rfl (x_as rfl) ?_
    refine l_x rfl (x_as rfl) ?_
    refine l_nil ?_
    refine r_seq ?_
    refine r_seq ?_
    refine r_region ?_
    refine l_x rfl (x_mv rfl) ?_
    refine l_x rfl (x_neq rfl rfl) ?_
    refine l_nil ?_
    refine r_ifd rfl (fun hc44 => ?_) (fun hc44 => ?_)
    · exact absurd rfl hc44
    refine r_skip ?_
    refine r_seq ?_
    refine r_seq ?_
    refine r_region ?_
    refine l_x rfl (x_as rfl) ?_
    refine l_nil ?_
    refine r_block ?_
    refine r_loop (G := Nat) (fun i => (force b day).length - i) (fun i => [(1, Value.int .i64 day), (2, Value.int .i64 o), (3, .pointer (some ⟨b4, 0, none⟩)), (7, .pointer (some ⟨b24, 0, none⟩)), (9, vl), (11, Value.int .i64 i)]) (fun i w' => (i ≤ (force b day).length) ∧ Own nob w w' [blk b4 [vm, vf] 25, blk b24 (encSg (sgOf n1)) 30, vec EMK vl (force b day)]) 0 ⟨rfl, rfl, rfl, rfl, rfl, rfl, trivial⟩ ⟨Nat.zero_le _, (S29.pick [0, 1, 2] (by decide) rfl)⟩ ?_
    rintro i ρ w1 ⟨hi, S1⟩ IH
    refine r_seq ?_
    refine r_seq ?_
    refine r_region ?_
    refine l_x rfl (x_mv rfl) ?_
    refine l_x rfl (x_mv rfl) ?_
    refine l_x rfl (x_len (vec_rd (S1.at 2 rfl)) rfl Tryz.runUnderlying22) ?_
    refine l_x rfl (x_lss rfl rfl) ?_
    refine l_nil ?_
    refine r_ifd rfl (fun hc48 => ?_) (fun hc48 => ?_)
    · skip
      obtain ⟨a, ha⟩ : ∃ a, (force b day)[i]? = some a := ⟨_, List.getElem?_eq_getElem (by omega)⟩
      refine r_skip ?_
      refine r_seq ?_
      refine r_block ?_
      refine r_seq ?_
      refine r_drawE 14 nob Tryz.mixed (by kernel_rfl) ?_
      intro w30 hl31
      have S32 := S1.step hl31
      refine e_exact 0 _ (by kernel_rfl) rfl rfl (by kernel_rfl) rfl (ex_x rfl (fun w1 h1 => x_load rfl (ld_blks ((S32.step h1).blk 0 rfl) Tryz.isAgg25 Tryz.sizeOf25 rfl rfl))) ?_
      refine e_exact 1 _ (by kernel_rfl) rfl rfl (by kernel_rfl) rfl (ex_x rfl (fun w1 h1 => x_load rfl (ld_blks ((S32.step h1).blk 1 rfl) Tryz.isAgg30 Tryz.sizeOf30 rfl rfl))) ?_
      refine e_exact 2 _ (by kernel_rfl) rfl rfl (by kernel_rfl) rfl (ex_x rfl (fun w1 h1 => x_mv rfl)) ?_
      refine e_exact 3 _ (by kernel_rfl) rfl rfl (by kernel_rfl) rfl (ex_x rfl (fun w1 h1 => x_mv rfl)) ?_
      refine e_index EMK 4 (by kernel_rfl) rfl rfl (by kernel_rfl) rfl rfl (vec_rd (S32.at 2 rfl)) rfl rfl Tryz.runUnderlying22 Tryz.sizeOf39 (by omega) ha ?_
      intro b33 o34 hat35
      refine e_exact 5 _ (by kernel_rfl) rfl rfl (by kernel_rfl) rfl (ex_x rfl (fun w1 h1 => x_fieldAddr rfl Tryz.runUnderlying39 rfl Tryz.sizeOf28 (by decide))) ?_
      refine e_exact 6 _ (by kernel_rfl) rfl rfl (by kernel_rfl) rfl (ex_x rfl (fun w1 h1 => x_load rfl (ld_part (f := 3) Tryz.isAgg28 Tryz.sizeOf28 rfl rfl (rd_row (vec_rd ((S32.step h1).at 2 rfl)) hat35 ha)))) ?_
      refine e_exact 7 _ (by kernel_rfl) rfl rfl (by kernel_rfl) rfl (ex_x rfl (fun w1 h1 => x_buildS (out := [_, _, _, _, _, _]) (ss := [6]) Tryz.zeroValue30 rfl Tryz.runUnderlying30 ⟨Tryz.sizeOf28, trivial⟩ (fill_cons rfl rfl rfl (Nat.le_of_ble_eq_true rfl) fill_nil))) ?_
      refine e_next [8] (by kernel_rfl) (by kernel_rfl) ⟨⟨_, _, rfl, rfl, ?_⟩, trivial⟩
      refine s_callf [] [] [_, _, _] rfl rfl Tryz.call33 rfl ((c_Apart b vm vf (sgOf n1) a.s sgOf_clr.ok (force_clr9 ho1 hB.om (List.mem_of_getElem? ha)).ok _ (hB.le S32.le)).mono ?_)
      rintro _ w36 (⟨y1, hy1, rfl, hqy1, hl6036⟩ | ⟨rfl, hp1, hl6036⟩)
      · exact absurd (hqy1.trans (nob_E ho1 (force_clr9 ho1 hB.om (List.mem_of_getElem? ha)))) hy1
      have S37 := S32.step hl6036
      refine ⟨.of_le hl6036, ?_⟩
      refine e_exact 9 _ (by kernel_rfl) rfl rfl (by kernel_rfl) rfl (ex_x rfl (fun w1 h1 => x_mv rfl)) ?_
      refine e_exact 10 _ (by kernel_rfl) rfl rfl (by kernel_rfl) rfl (ex_x rfl (fun w1 h1 => x_extract rfl rfl)) ?_
      refine e_exact 11 _ (by kernel_rfl) rfl rfl (by kernel_rfl) rfl (ex_x rfl (fun w1 h1 => x_extract rfl rfl)) ?_
      refine e_exact 12 _ (by kernel_rfl) rfl rfl (by kernel_rfl) rfl (ex_x rfl (fun w1 h1 => x_as rfl)) ?_
      refine e_exact 13 _ (by kernel_rfl) rfl rfl (by kernel_rfl) rfl (ex_x rfl (fun w1 h1 => x_as rfl)) ?_
      refine e_done (by kernel_rfl) ?_
      refine l_nil ?_
      refine r_seq ?_
      refine r_region ?_
      refine l_x rfl (x_mv rfl) ?_
      refine l_x rfl (x_neq rfl rfl) ?_
      refine l_x rfl (x_mv rfl) ?_
      refine l_splitd (d := 65) rfl (fun hg65 => ?_) (fun hg65 => ?_)
      · exact absurd rfl hg65
      refine l_x rfl (x_mv rfl) ?_
      refine l_x rfl (x_eql rfl rfl) ?_
      refine l_x rfl (x_pick_f rfl rfl) ?_
      refine l_nil ?_
      refine r_ifd rfl (fun hc68 => ?_) (fun hc68 => ?_)
      · exact absurd hc68 (nob_apart hfb (List.mem_of_getElem? ha))
      refine r_skip ?_
      refine r_inBlock ?_
      refine r_region ?_
      refine l_x rfl (x_mv rfl) ?_
      refine l_x rfl (x_add rfl rfl (by omega)) ?_
      refine l_x rfl (x_as rfl) ?_
      refine l_nil ?_
      exact IH (i + 1) _ _ (by omega) ⟨rfl, rfl, rfl, rfl, rfl, rfl, trivial⟩ ⟨by omega, (S37.take 3)⟩
    refine r_exit rfl ?_
    refine r_seq ?_
    refine r_cut (G := Nat × Value) (fun ⟨b14, v1⟩ => [(1, Value.int .i64 day), (2, Value.int .i64 o), (14, .pointer (some ⟨b14, 0, none⟩))]) (fun ⟨b14, v1⟩ w' => Own nob w w' [blk b4 [vm, vf] 25, blk b14 [v1, vf] 25, vec EMK v1 (nobS b day o n1).marks]) ?_ (fun HK => ?_)
    · rintro ⟨b14, v1⟩ ρ9 w38 S39
      have hB2 := nob_smr (n := n1) ho64 hd64 hB (by omega) S39.le (vec_rd (S39.at 2 rfl))
      have hY9 := S39.blk 1 rfl
      have hL9 := S39.le
      have hG := hG.le hL9
      refine r_seq ?_
      have S40 := Own.start (X := nob) w38
      refine r_region ?_
      refine l_x rfl (x_load rfl (ld_blks (hY9.keep S40.le id) Tryz.isAgg25 Tryz.sizeOf25 rfl rfl)) ?_
      refine l_x rfl (x_mv rfl) ?_
      refine l_call [] [] [_, _] rfl rfl Tryz.call25 rfl (c_Mistaken (nobS b day o n1) v1 vf day _ (hB2.le S40.le)) ?_
      rintro _ w41 (⟨x3, hx3, rfl, hqx3, hl8741⟩ | ⟨vp, rfl, ho3, hN8741, hl8741⟩)
      · skip
        have S42 := S40.step hl8741
        refine l_x rfl (x_mv rfl) ?_
        refine l_x rfl (x_extract rfl rfl) ?_
        refine l_x rfl (x_extract rfl rfl) ?_
        refine l_x rfl (x_as rfl) ?_
        refine l_x rfl (x_as rfl) ?_
        refine l_nil ?_
        refine r_seq ?_
        refine r_seq ?_
        refine r_region ?_
        refine l_x rfl (x_mv rfl) ?_
        refine l_x rfl (x_neq rfl rfl) ?_
        refine l_nil ?_
        refine r_ifd rfl (fun hc91 => ?_) (fun hc91 => ?_)
        · skip
          refine r_seq ?_
          refine r_region ?_
          refine l_call [] [] [] rfl rfl Tryz.call20 rfl (c_marked _ (hG.le S42.le)) ?_
          rintro _ w43 ⟨rfl, hl45⟩
          have S44 := S42.step hl45
          refine l_x rfl (x_as rfl) ?_
          refine l_nil ?_
          refine r_ret (rs := [.tmp 6]) [_] Tryz.func7 rfl ⟨rfl, trivial⟩ ?_
          exact ⟨rfl, hL9.trans S44.le⟩
        exact absurd hx3 hc91
      have S46 := S40.add hl8741 hN8741
      refine l_x rfl (x_mv rfl) ?_
      refine l_x rfl (x_extract rfl rfl) ?_
      refine l_x rfl (x_extract rfl rfl) ?_
      refine l_x rfl (x_as rfl) ?_
      refine l_x rfl (x_as rfl) ?_
      refine l_nil ?_
      refine r_seq ?_
      refine r_seq ?_
      refine r_region ?_
      refine l_x rfl (x_mv rfl) ?_
      refine l_x rfl (x_neq rfl rfl) ?_
      refine l_nil ?_
      refine r_ifd rfl (fun hc91 => ?_) (fun hc91 => ?_)
      · exact absurd rfl hc91
      have hml9 := mis_len9 ho3
      refine r_skip ?_
      refine r_seq ?_
      refine r_seq ?_
      refine r_region ?_
      refine l_x rfl (x_as rfl) ?_
      refine l_nil ?_
      refine r_block ?_
      refine r_loop (G := Nat) (fun i => (mistaken (nobS b day o n1) day).length - i) (fun i => [(2, Value.int .i64 o), (15, vp), (17, Value.int .i64 i)]) (fun i w' => (i ≤ (mistaken (nobS b day o n1) day).length) ∧ Own nob w38 w' [vec EPR vp (mistaken (nobS b day o n1) day)]) 0 ⟨rfl, rfl, rfl, trivial⟩ ⟨Nat.zero_le _, S46⟩ ?_
      rintro i ρ w1b ⟨hi, S1b⟩ IHb
      refine r_seq ?_
      refine r_seq ?_
      refine r_region ?_
      refine l_x rfl (x_mv rfl) ?_
      refine l_x rfl (x_mv rfl) ?_
      refine l_x rfl (x_len (vec_rd (S1b.at 0 rfl)) rfl Tryz.runUnderlying43) ?_
      refine l_x rfl (x_lss rfl rfl) ?_
      refine l_nil ?_
      refine r_ifd rfl (fun hc96 => ?_) (fun hc96 => ?_)
      · skip
        obtain ⟨p, hp⟩ : ∃ p, (mistaken (nobS b day o n1) day)[i]? = some p := ⟨_, List.getElem?_eq_getElem (by omega)⟩
        have hpn := nob_pair hfb ho1 ho3 (List.mem_of_getElem? hp)
        refine r_skip ?_
        refine r_seq ?_
        refine r_block ?_
        refine r_seq ?_
        refine r_region ?_
        refine l_x rfl (x_mv rfl) ?_
        refine l_x rfl (x_mv rfl) ?_
        refine l_index EPR rfl (vec_rd (S1b.at 0 rfl)) rfl rfl Tryz.runUnderlying43 Tryz.sizeOf48 (by omega) hp ?_
        intro b47 o48 hat49 row50
        refine l_x rfl (x_fieldAddr rfl Tryz.runUnderlying48 rfl Tryz.sizeOf3 (by decide)) ?_
        refine l_x rfl (x_load rfl (ld_cell Tryz.isAgg3 (row50 0 _ rfl))) ?_
        refine l_x rfl (x_mv rfl) ?_
        refine l_x rfl (x_eql rfl rfl) ?_
        refine l_x rfl (x_mv rfl) ?_
        refine l_splitd (d := 106) rfl (fun hg106 => ?_) (fun hg106 => ?_)
        · exact absurd hg106 hpn.1
        refine l_x rfl (x_mv rfl) ?_
        refine l_x rfl (x_mv rfl) ?_
        refine l_index EPR rfl (vec_rd (S1b.at 0 rfl)) rfl rfl Tryz.runUnderlying43 Tryz.sizeOf48 (by omega) hp ?_
        intro b51 o52 hat53 row54
        refine l_x rfl (x_fieldAddr rfl Tryz.runUnderlying48 rfl Tryz.sizeOf3 (by decide)) ?_
        refine l_x rfl (x_load rfl (ld_cell Tryz.isAgg3 (row54 1 _ rfl))) ?_
        refine l_x rfl (x_mv rfl) ?_
        refine l_x rfl (x_eql rfl rfl) ?_
        refine l_x rfl (x_pick_f rfl rfl) ?_
        refine l_nil ?_
        refine r_ifd rfl (fun hc114 => ?_) (fun hc114 => ?_)
        · exact absurd hc114 hpn.2
        refine r_skip ?_
        refine r_inBlock ?_
        refine r_region ?_
        refine l_x rfl (x_mv rfl) ?_
        refine l_x rfl (x_add rfl rfl (by omega)) ?_
        refine l_x rfl (x_as rfl) ?_
        refine l_nil ?_
        exact IHb (i + 1) _ _ (by omega) ⟨rfl, rfl, rfl, trivial⟩ ⟨by omega, (S1b.take 1)⟩
      refine r_exit rfl ?_
      refine r_seq ?_
      refine r_region ?_
      refine l_call [] [] [] rfl rfl Tryz.call20 rfl (c_marked _ (hG.le S1b.le)) ?_
      rintro _ w55 ⟨rfl, hl57⟩
      have S56 := S1b.step hl57
      refine l_x rfl (x_as rfl) ?_
      refine l_nil ?_
      refine r_ret (rs := [.tmp 6]) [_] Tryz.func7 rfl ⟨rfl, trivial⟩ ?_
      exact ⟨rfl, hL9.trans S56.le⟩
    refine r_drawE 17 (yng w1) Tryz.mixed (by kernel_rfl) ?_
    intro w58 hl59
    have S60 := S1.step hl59
    have hy61 : Keep (yng w1) w1 w58 := .of_le hl59
    refine e_exact 1 _ (by kernel_rfl) rfl rfl (by kernel_rfl) rfl (ex_x rfl (fun w1 h1 => x_fieldAddr rfl Tryz.runUnderlying25 rfl Tryz.sizeOf22 (by decide))) ?_
    refine e_exact 2 _ (by kernel_rfl) rfl rfl (by kernel_rfl) rfl (ex_x rfl (fun w1 h1 => x_load rfl (ld_blk ((S1.yng (hy61.trans h1)).blk 0 rfl) Tryz.isAgg22 rfl))) ?_
    refine e_exact 4 _ (by kernel_rfl) rfl rfl (by kernel_rfl) rfl (ex_x rfl (fun w1 h1 => x_mv rfl)) ?_
    refine e_exact 5 _ (by kernel_rfl) rfl rfl (by kernel_rfl) rfl (ex_x rfl (fun w1 h1 => x_mv rfl)) ?_
    refine e_exact 6 _ (by kernel_rfl) rfl rfl (by kernel_rfl) rfl (ex_x rfl (fun w1 h1 => x_mv rfl)) ?_
    refine e_exact 7 _ (by kernel_rfl) rfl rfl (by kernel_rfl) rfl (ex_x rfl (fun w1 h1 => x_fieldAddr rfl Tryz.runUnderlying30 rfl Tryz.sizeOf28 (by decide))) ?_
    refine e_exact 8 _ (by kernel_rfl) rfl rfl (by kernel_rfl) rfl (ex_x rfl (fun w1 h1 => x_load rfl (ld_blks ((S1.yng (hy61.trans h1)).blk 1 rfl) Tryz.isAgg28 Tryz.sizeOf28 rfl rfl))) ?_
    refine e_exact 9 _ (by kernel_rfl) rfl rfl (by kernel_rfl) rfl (ex_x rfl (fun w1 h1 => x_buildS (out := [_, _, _, _, _, _, _, _, _]) (ss := [1, 1, 1, 6]) Tryz.zeroValue39 rfl Tryz.runUnderlying39 ⟨Tryz.sizeOf3, Tryz.sizeOf3, Tryz.sizeOf3, Tryz.sizeOf28, trivial⟩ (fill_cons rfl rfl rfl (Nat.le_of_ble_eq_true rfl) (fill_cons rfl rfl rfl (Nat.le_of_ble_eq_true rfl) (fill_cons rfl rfl rfl (Nat.le_of_ble_eq_true rfl) (fill_cons rfl rfl rfl (Nat.le_of_ble_eq_true rfl) fill_nil)))))) ?_
    refine e_exact 12 _ (by kernel_rfl) rfl rfl (by kernel_rfl) rfl (ex_x rfl (fun w1 h1 => x_fieldAddr rfl Tryz.runUnderlying25 rfl Tryz.sizeOf23 (by decide))) ?_
    refine e_exact 13 _ (by kernel_rfl) rfl rfl (by kernel_rfl) rfl (ex_x rfl (fun w1 h1 => x_load rfl (ld_blk ((S1.yng (hy61.trans h1)).blk 0 rfl) Tryz.isAgg23 rfl))) ?_
    refine e_next [0, 10, 15] (by kernel_rfl) (by kernel_rfl) ⟨⟨_, _, rfl, rfl, ?_⟩, ⟨_, _, rfl, rfl, ?_⟩, ⟨_, _, rfl, rfl, ?_⟩, trivial⟩
    · skip
      refine s_buildSlice EMK [] (Own.start (X := nob) w58) rfl Tryz.runUnderlying22 Tryz.sizeOf39 Tryz.zeroValue39 rfl trivial (by decide) ?_
      intro v66 w62 S63 hl65
      have hn67 := S63.new 0 rfl
      have S64 := S60.add hl65 hn67
      refine ⟨.of_le hl65, ?_⟩
      have hyb68 : ∀ c, (vec EMK v66 []).fp c → yng w1 c := fun c hc => Nat.le_trans hy61.size (hn67.bd c hc).1
      have hy69 : Keep (yng w1) w1 w62 := hy61.trans (Keep.of_le hl65)
      refine e_next [3, 10, 15] (by kernel_rfl) (by kernel_rfl) ⟨⟨_, _, rfl, rfl, ?_⟩, ⟨_, _, rfl, rfl, ?_⟩, ⟨_, _, rfl, rfl, ?_⟩, trivial⟩
      · skip
        refine s_append EMK (S64.lend 3 rfl) 0 rfl rfl rfl rfl (hB.m.le S64.le) Tryz.underlying22 info39 rfl rfl rfl (by unfold maxLen; simp; omega) (by simp; show _ * 32 ≤ _; omega) ?_
        intro v74 w70 S71 hk73 hv75
        have S72 := S64.back 3 rfl S71
        have hyb76 : ∀ c, (vec EMK v74 []).fp c → yng w1 c := fun c hc => (S71.bd 0 _ rfl c hc).2.elim (fun h => Nat.le_trans hy69.size h) (hyb68 c)
        refine ⟨hk73.mono fun c _ hc => hyb68 c hc, ?_⟩
        have hy77 : Keep (yng w1) w1 w70 := hy69.trans (hk73.mono fun c _ hc => hyb68 c hc)
        refine e_next [10, 15] (by kernel_rfl) (by kernel_rfl) ⟨⟨_, _, rfl, rfl, ?_⟩, ⟨_, _, rfl, rfl, ?_⟩, trivial⟩
        · skip
          refine s_buildSlice EMK [⟨o, day, day, sgOf n1⟩] (Own.start (X := nob) w70) rfl Tryz.runUnderlying22 Tryz.sizeOf39 Tryz.zeroValue39 rfl ⟨rfl, rfl, trivial⟩ (by decide) ?_
          intro v82 w78 S79 hl81
          have hn83 := S79.new 0 rfl
          have S80 := S72.add hl81 hn83
          refine ⟨.of_le hl81, ?_⟩
          have hyb84 : ∀ c, (vec EMK v82 []).fp c → yng w1 c := fun c hc => Nat.le_trans hy77.size (hn83.bd c hc).1
          have hy85 : Keep (yng w1) w1 w78 := hy77.trans (Keep.of_le hl81)
          refine e_next [11, 15] (by kernel_rfl) (by kernel_rfl) ⟨⟨_, _, rfl, rfl, ?_⟩, ⟨_, _, rfl, rfl, ?_⟩, trivial⟩
          · skip
            refine s_append EMK (S80.lend 3 rfl) 0 rfl rfl rfl rfl (vec_rd (S80.at 4 rfl)) Tryz.underlying22 info39 rfl rfl rfl (by unfold maxLen; simp; omega) (by simp; show _ * 32 ≤ _; omega) ?_
            intro v90 w86 S87 hk89 hv91
            have S88 := S80.back 3 rfl S87
            have hyb92 : ∀ c, (vec EMK v90 []).fp c → yng w1 c := fun c hc => (S87.bd 0 _ rfl c hc).2.elim (fun h => Nat.le_trans hy85.size h) (hyb76 c)
            refine ⟨hk89.mono fun c _ hc => hyb76 c hc, ?_⟩
            have hy93 : Keep (yng w1) w1 w86 := hy85.trans (hk89.mono fun c _ hc => hyb76 c hc)
            refine e_exact 14 _ (by kernel_rfl) rfl rfl (by kernel_rfl) rfl (ex_x rfl (fun w1 h1 => x_buildS (out := [_, _]) (ss := [1, 1]) Tryz.zeroValue25 rfl Tryz.runUnderlying25 ⟨Tryz.sizeOf22, Tryz.sizeOf23, trivial⟩ (fill_cons rfl (Rd.cells (vec_rd (S88.at 3 rfl))) rfl (Nat.le_of_ble_eq_true rfl) (fill_cons rfl (Rd.cells (hB.f.le S88.le)) rfl (Nat.le_of_ble_eq_true rfl) fill_nil)))) ?_
            refine e_next [15] (by kernel_rfl) (by kernel_rfl) ⟨⟨_, _, rfl, rfl, ?_⟩, trivial⟩
            refine s_allocY S88 rfl Tryz.zeroValue25 rfl ?_
            intro b97 w94 S95 hl96 hb98
            refine ⟨.of_le hl96, ?_⟩
            have hy99 : Keep (yng w1) w1 w94 := hy93.trans (Keep.of_le hl96)
            refine e_next [16] (by kernel_rfl) (by kernel_rfl) ⟨⟨_, _, rfl, rfl, ?_⟩, trivial⟩
            refine s_stores (vs := [_, _]) S95 5 rfl rfl rfl rfl (ones_cons (Rd.one (vec_rd (S95.at 3 rfl))) (ones_cons (Rd.one (hB.f.le S95.le)) ones_nil)) Tryz.sizeOf25 (by first | exact Nat.le_refl _ | simp) (splice_all rfl) ?_
            intro w100 S101 hk102
            refine ⟨(yng_blk hy93 hb98 hk102), ?_⟩
            have hy103 : Keep (yng w1) w1 w100 := hy99.trans ((yng_blk hy93 hb98 hk102))
            refine e_done (by kernel_rfl) ?_
            refine l_nil ?_
            exact HK (b97, v90) _ _ ⟨rfl, rfl, rfl, trivial⟩ (S101.pick (L' := [_, _, _]) [0, 5, 3] (by decide) rfl)
          refine s_allocY S80 rfl Tryz.zeroValue25 rfl ?_
          intro b107 w104 S105 hl106 hb108
          refine ⟨.of_le hl106, ?_⟩
          have hy109 : Keep (yng w1) w1 w104 := hy85.trans (Keep.of_le hl106)
          refine e_next [11] (by kernel_rfl) (by kernel_rfl) ⟨⟨_, _, rfl, rfl, ?_⟩, trivial⟩
          refine s_append EMK (S105.lend 3 rfl) 0 rfl rfl rfl rfl (vec_rd (S105.at 4 rfl)) Tryz.underlying22 info39 rfl rfl rfl (by unfold maxLen; simp; omega) (by simp; show _ * 32 ≤ _; omega) ?_
          intro v114 w110 S111 hk113 hv115
          have S112 := S105.back 3 rfl S111
          have hyb116 : ∀ c, (vec EMK v114 []).fp c → yng w1 c := fun c hc => (S111.bd 0 _ rfl c hc).2.elim (fun h => Nat.le_trans hy109.size h) (hyb76 c)
          refine ⟨hk113.mono fun c _ hc => hyb76 c hc, ?_⟩
          have hy117 : Keep (yng w1) w1 w110 := hy109.trans (hk113.mono fun c _ hc => hyb76 c hc)
          refine e_exact 14 _ (by kernel_rfl) rfl rfl (by kernel_rfl) rfl (ex_x rfl (fun w1 h1 => x_buildS (out := [_, _]) (ss := [1, 1]) Tryz.zeroValue25 rfl Tryz.runUnderlying25 ⟨Tryz.sizeOf22, Tryz.sizeOf23, trivial⟩ (fill_cons rfl (Rd.cells (vec_rd (S112.at 3 rfl))) rfl (Nat.le_of_ble_eq_true rfl) (fill_cons rfl (Rd.cells (hB.f.le S112.le)) rfl (Nat.le_of_ble_eq_true rfl) fill_nil)))) ?_
          refine e_next [16] (by kernel_rfl) (by kernel_rfl) ⟨⟨_, _, rfl, rfl, ?_⟩, trivial⟩
          refine s_stores (vs := [_, _]) S112 5 rfl rfl rfl rfl (ones_cons (Rd.one (vec_rd (S112.at 3 rfl))) (ones_cons (Rd.one (hB.f.le S112.le)) ones_nil)) Tryz.sizeOf25 (by first | exact Nat.le_refl _ | simp) (splice_all rfl) ?_
          intro w118 S119 hk120
          refine ⟨(yng_blk hy85 hb108 hk120), ?_⟩
          have hy121 : Keep (yng w1) w1 w118 := hy117.trans ((yng_blk hy85 hb108 hk120))
          refine e_done (by kernel_rfl) ?_
          refine l_nil ?_
          exact HK (b107, v114) _ _ ⟨rfl, rfl, rfl, trivial⟩ (S119.pick (L' := [_, _, _]) [0, 5, 3] (by decide) rfl)
        refine s_allocY S72 rfl Tryz.zeroValue25 rfl ?_
        intro b125 w122 S123 hl124 hb126
        refine ⟨.of_le hl124, ?_⟩
        have hy127 : Keep (yng w1) w1 w122 := hy77.trans (Keep.of_le hl124)
        refine e_next [10] (by kernel_rfl) (by kernel_rfl) ⟨⟨_, _, rfl, rfl, ?_⟩, trivial⟩
        refine s_buildSlice EMK [⟨o, day, day, sgOf n1⟩] (Own.start (X := nob) w122) rfl Tryz.runUnderlying22 Tryz.sizeOf39 Tryz.zeroValue39 rfl ⟨rfl, rfl, trivial⟩ (by decide) ?_
        intro v132 w128 S129 hl131
        have hn133 := S129.new 0 rfl
        have S130 := S123.add hl131 hn133
        refine ⟨.of_le hl131, ?_⟩
        have hyb134 : ∀ c, (vec EMK v132 []).fp c → yng w1 c := fun c hc => Nat.le_trans hy127.size (hn133.bd c hc).1
        have hy135 : Keep (yng w1) w1 w128 := hy127.trans (Keep.of_le hl131)
        refine e_next [11] (by kernel_rfl) (by kernel_rfl) ⟨⟨_, _, rfl, rfl, ?_⟩, trivial⟩
        refine s_append EMK (S130.lend 3 rfl) 0 rfl rfl rfl rfl (vec_rd (S130.at 5 rfl)) Tryz.underlying22 info39 rfl rfl rfl (by unfold maxLen; simp; omega) (by simp; show _ * 32 ≤ _; omega) ?_
        intro v140 w136 S137 hk139 hv141
        have S138 := S130.back 3 rfl S137
        have hyb142 : ∀ c, (vec EMK v140 []).fp c → yng w1 c := fun c hc => (S137.bd 0 _ rfl c hc).2.elim (fun h => Nat.le_trans hy135.size h) (hyb76 c)
        refine ⟨hk139.mono fun c _ hc => hyb76 c hc, ?_⟩
        have hy143 : Keep (yng w1) w1 w136 := hy135.trans (hk139.mono fun c _ hc => hyb76 c hc)
        refine e_exact 14 _ (by kernel_rfl) rfl rfl (by kernel_rfl) rfl (ex_x rfl (fun w1 h1 => x_buildS (out := [_, _]) (ss := [1, 1]) Tryz.zeroValue25 rfl Tryz.runUnderlying25 ⟨Tryz.sizeOf22, Tryz.sizeOf23, trivial⟩ (fill_cons rfl (Rd.cells (vec_rd (S138.at 3 rfl))) rfl (Nat.le_of_ble_eq_true rfl) (fill_cons rfl (Rd.cells (hB.f.le S138.le)) rfl (Nat.le_of_ble_eq_true rfl) fill_nil)))) ?_
        refine e_next [16] (by kernel_rfl) (by kernel_rfl) ⟨⟨_, _, rfl, rfl, ?_⟩, trivial⟩
        refine s_stores (vs := [_, _]) S138 4 rfl rfl rfl rfl (ones_cons (Rd.one (vec_rd (S138.at 3 rfl))) (ones_cons (Rd.one (hB.f.le S138.le)) ones_nil)) Tryz.sizeOf25 (by first | exact Nat.le_refl _ | simp) (splice_all rfl) ?_
        intro w144 S145 hk146
        refine ⟨(yng_blk hy77 hb126 hk146), ?_⟩
        have hy147 : Keep (yng w1) w1 w144 := hy143.trans ((yng_blk hy77 hb126 hk146))
        refine e_done (by kernel_rfl) ?_
        refine l_nil ?_
        exact HK (b125, v140) _ _ ⟨rfl, rfl, rfl, trivial⟩ (S145.pick (L' := [_, _, _]) [0, 4, 3] (by decide) rfl)
      · skip
        refine s_buildSlice EMK [⟨o, day, day, sgOf n1⟩] (Own.start (X := nob) w62) rfl Tryz.runUnderlying22 Tryz.sizeOf39 Tryz.zeroValue39 rfl ⟨rfl, rfl, trivial⟩ (by decide) ?_
        intro v152 w148 S149 hl151
        have hn153 := S149.new 0 rfl
        have S150 := S64.add hl151 hn153
        refine ⟨.of_le hl151, ?_⟩
        have hyb154 : ∀ c, (vec EMK v152 []).fp c → yng w1 c := fun c hc => Nat.le_trans hy69.size (hn153.bd c hc).1
        have hy155 : Keep (yng w1) w1 w148 := hy69.trans (Keep.of_le hl151)
        refine e_next [3, 15] (by kernel_rfl) (by kernel_rfl) ⟨⟨_, _, rfl, rfl, ?_⟩, ⟨_, _, rfl, rfl, ?_⟩, trivial⟩
        · skip
          refine s_append EMK (S150.lend 3 rfl) 0 rfl rfl rfl rfl (hB.m.le S150.le) Tryz.underlying22 info39 rfl rfl rfl (by unfold maxLen; simp; omega) (by simp; show _ * 32 ≤ _; omega) ?_
          intro v160 w156 S157 hk159 hv161
          have S158 := S150.back 3 rfl S157
          have hyb162 : ∀ c, (vec EMK v160 []).fp c → yng w1 c := fun c hc => (S157.bd 0 _ rfl c hc).2.elim (fun h => Nat.le_trans hy155.size h) (hyb68 c)
          refine ⟨hk159.mono fun c _ hc => hyb68 c hc, ?_⟩
          have hy163 : Keep (yng w1) w1 w156 := hy155.trans (hk159.mono fun c _ hc => hyb68 c hc)
          refine e_next [11, 15] (by kernel_rfl) (by kernel_rfl) ⟨⟨_, _, rfl, rfl, ?_⟩, ⟨_, _, rfl, rfl, ?_⟩, trivial⟩
          · skip
            refine s_append EMK (S158.lend 3 rfl) 0 rfl rfl rfl rfl (vec_rd (S158.at 4 rfl)) Tryz.underlying22 info39 rfl rfl rfl (by unfold maxLen; simp; omega) (by simp; show _ * 32 ≤ _; omega) ?_
            intro v168 w164 S165 hk167 hv169
            have S166 := S158.back 3 rfl S165
            have hyb170 : ∀ c, (vec EMK v168 []).fp c → yng w1 c := fun c hc => (S165.bd 0 _ rfl c hc).2.elim (fun h => Nat.le_trans hy163.size h) (hyb162 c)
            refine ⟨hk167.mono fun c _ hc => hyb162 c hc, ?_⟩
            have hy171 : Keep (yng w1) w1 w164 := hy163.trans (hk167.mono fun c _ hc => hyb162 c hc)
            refine e_exact 14 _ (by kernel_rfl) rfl rfl (by kernel_rfl) rfl (ex_x rfl (fun w1 h1 => x_buildS (out := [_, _]) (ss := [1, 1]) Tryz.zeroValue25 rfl Tryz.runUnderlying25 ⟨Tryz.sizeOf22, Tryz.sizeOf23, trivial⟩ (fill_cons rfl (Rd.cells (vec_rd (S166.at 3 rfl))) rfl (Nat.le_of_ble_eq_true rfl) (fill_cons rfl (Rd.cells (hB.f.le S166.le)) rfl (Nat.le_of_ble_eq_true rfl) fill_nil)))) ?_
            refine e_next [15] (by kernel_rfl) (by kernel_rfl) ⟨⟨_, _, rfl, rfl, ?_⟩, trivial⟩
            refine s_allocY S166 rfl Tryz.zeroValue25 rfl ?_
            intro b175 w172 S173 hl174 hb176
            refine ⟨.of_le hl174, ?_⟩
            have hy177 : Keep (yng w1) w1 w172 := hy171.trans (Keep.of_le hl174)
            refine e_next [16] (by kernel_rfl) (by kernel_rfl) ⟨⟨_, _, rfl, rfl, ?_⟩, trivial⟩
            refine s_stores (vs := [_, _]) S173 5 rfl rfl rfl rfl (ones_cons (Rd.one (vec_rd (S173.at 3 rfl))) (ones_cons (Rd.one (hB.f.le S173.le)) ones_nil)) Tryz.sizeOf25 (by first | exact Nat.le_refl _ | simp) (splice_all rfl) ?_
            intro w178 S179 hk180
            refine ⟨(yng_blk hy171 hb176 hk180), ?_⟩
            have hy181 : Keep (yng w1) w1 w178 := hy177.trans ((yng_blk hy171 hb176 hk180))
            refine e_done (by kernel_rfl) ?_
            refine l_nil ?_
            exact HK (b175, v168) _ _ ⟨rfl, rfl, rfl, trivial⟩ (S179.pick (L' := [_, _, _]) [0, 5, 3] (by decide) rfl)
          refine s_allocY S158 rfl Tryz.zeroValue25 rfl ?_
          intro b185 w182 S183 hl184 hb186
          refine ⟨.of_le hl184, ?_⟩
          have hy187 : Keep (yng w1) w1 w182 := hy163.trans (Keep.of_le hl184)
          refine e_next [11] (by kernel_rfl) (by kernel_rfl) ⟨⟨_, _, rfl, rfl, ?_⟩, trivial⟩
          refine s_append EMK (S183.lend 3 rfl) 0 rfl rfl rfl rfl (vec_rd (S183.at 4 rfl)) Tryz.underlying22 info39 rfl rfl rfl (by unfold maxLen; simp; omega) (by simp; show _ * 32 ≤ _; omega) ?_
          intro v192 w188 S189 hk191 hv193
          have S190 := S183.back 3 rfl S189
          have hyb194 : ∀ c, (vec EMK v192 []).fp c → yng w1 c := fun c hc => (S189.bd 0 _ rfl c hc).2.elim (fun h => Nat.le_trans hy187.size h) (hyb162 c)
          refine ⟨hk191.mono fun c _ hc => hyb162 c hc, ?_⟩
          have hy195 : Keep (yng w1) w1 w188 := hy187.trans (hk191.mono fun c _ hc => hyb162 c hc)
          refine e_exact 14 _ (by kernel_rfl) rfl rfl (by kernel_rfl) rfl (ex_x rfl (fun w1 h1 => x_buildS (out := [_, _]) (ss := [1, 1]) Tryz.zeroValue25 rfl Tryz.runUnderlying25 ⟨Tryz.sizeOf22, Tryz.sizeOf23, trivial⟩ (fill_cons rfl (Rd.cells (vec_rd (S190.at 3 rfl))) rfl (Nat.le_of_ble_eq_true rfl) (fill_cons rfl (Rd.cells (hB.f.le S190.le)) rfl (Nat.le_of_ble_eq_true rfl) fill_nil)))) ?_
          refine e_next [16] (by kernel_rfl) (by kernel_rfl) ⟨⟨_, _, rfl, rfl, ?_⟩, trivial⟩
          refine s_stores (vs := [_, _]) S190 5 rfl rfl rfl rfl (ones_cons (Rd.one (vec_rd (S190.at 3 rfl))) (ones_cons (Rd.one (hB.f.le S190.le)) ones_nil)) Tryz.sizeOf25 (by first | exact Nat.le_refl _ | simp) (splice_all rfl) ?_
          intro w196 S197 hk198
          refine ⟨(yng_blk hy163 hb186 hk198), ?_⟩
          have hy199 : Keep (yng w1) w1 w196 := hy195.trans ((yng_blk hy163 hb186 hk198))
          refine e_done (by kernel_rfl) ?_
          refine l_nil ?_
          exact HK (b185, v192) _ _ ⟨rfl, rfl, rfl, trivial⟩ (S197.pick (L' := [_, _, _]) [0, 5, 3] (by decide) rfl)
        refine s_allocY S150 rfl Tryz.zeroValue25 rfl ?_
        intro b203 w200 S201 hl202 hb204
        refine ⟨.of_le hl202, ?_⟩
        have hy205 : Keep (yng w1) w1 w200 := hy155.trans (Keep.of_le hl202)
        refine e_next [3] (by kernel_rfl) (by kernel_rfl) ⟨⟨_, _, rfl, rfl, ?_⟩, trivial⟩
        refine s_append EMK (S201.lend 3 rfl) 0 rfl rfl rfl rfl (hB.m.le S201.le) Tryz.underlying22 info39 rfl rfl rfl (by unfold maxLen; simp; omega) (by simp; show _ * 32 ≤ _; omega) ?_
        intro v210 w206 S207 hk209 hv211
        have S208 := S201.back 3 rfl S207
        have hyb212 : ∀ c, (vec EMK v210 []).fp c → yng w1 c := fun c hc => (S207.bd 0 _ rfl c hc).2.elim (fun h => Nat.le_trans hy205.size h) (hyb68 c)
        refine ⟨hk209.mono fun c _ hc => hyb68 c hc, ?_⟩
        have hy213 : Keep (yng w1) w1 w206 := hy205.trans (hk209.mono fun c _ hc => hyb68 c hc)
        refine e_next [11] (by kernel_rfl) (by kernel_rfl) ⟨⟨_, _, rfl, rfl, ?_⟩, trivial⟩
        refine s_append EMK (S208.lend 3 rfl) 0 rfl rfl rfl rfl (vec_rd (S208.at 4 rfl)) Tryz.underlying22 info39 rfl rfl rfl (by unfold maxLen; simp; omega) (by simp; show _ * 32 ≤ _; omega) ?_
        intro v218 w214 S215 hk217 hv219
        have S216 := S208.back 3 rfl S215
        have hyb220 : ∀ c, (vec EMK v218 []).fp c → yng w1 c := fun c hc => (S215.bd 0 _ rfl c hc).2.elim (fun h => Nat.le_trans hy213.size h) (hyb212 c)
        refine ⟨hk217.mono fun c _ hc => hyb212 c hc, ?_⟩
        have hy221 : Keep (yng w1) w1 w214 := hy213.trans (hk217.mono fun c _ hc => hyb212 c hc)
        refine e_exact 14 _ (by kernel_rfl) rfl rfl (by kernel_rfl) rfl (ex_x rfl (fun w1 h1 => x_buildS (out := [_, _]) (ss := [1, 1]) Tryz.zeroValue25 rfl Tryz.runUnderlying25 ⟨Tryz.sizeOf22, Tryz.sizeOf23, trivial⟩ (fill_cons rfl (Rd.cells (vec_rd (S216.at 3 rfl))) rfl (Nat.le_of_ble_eq_true rfl) (fill_cons rfl (Rd.cells (hB.f.le S216.le)) rfl (Nat.le_of_ble_eq_true rfl) fill_nil)))) ?_
        refine e_next [16] (by kernel_rfl) (by kernel_rfl) ⟨⟨_, _, rfl, rfl, ?_⟩, trivial⟩
        refine s_stores (vs := [_, _]) S216 5 rfl rfl rfl rfl (ones_cons (Rd.one (vec_rd (S216.at 3 rfl))) (ones_cons (Rd.one (hB.f.le S216.le)) ones_nil)) Tryz.sizeOf25 (by first | exact Nat.le_refl _ | simp) (splice_all rfl) ?_
        intro w222 S223 hk224
        refine ⟨(yng_blk hy155 hb204 hk224), ?_⟩
        have hy225 : Keep (yng w1) w1 w222 := hy221.trans ((yng_blk hy155 hb204 hk224))
        refine e_done (by kernel_rfl) ?_
        refine l_nil ?_
        exact HK (b203, v218) _ _ ⟨rfl, rfl, rfl, trivial⟩ (S223.pick (L' := [_, _, _]) [0, 5, 3] (by decide) rfl)
      refine s_allocY S64 rfl Tryz.zeroValue25 rfl ?_
      intro b229 w226 S227 hl228 hb230
      refine ⟨.of_le hl228, ?_⟩
      have hy231 : Keep (yng w1) w1 w226 := hy69.trans (Keep.of_le hl228)
      refine e_next [3, 10] (by kernel_rfl) (by kernel_rfl) ⟨⟨_, _, rfl, rfl, ?_⟩, ⟨_, _, rfl, rfl, ?_⟩, trivial⟩
      · skip
        refine s_append EMK (S227.lend 3 rfl) 0 rfl rfl rfl rfl (hB.m.le S227.le) Tryz.underlying22 info39 rfl rfl rfl (by unfold maxLen; simp; omega) (by simp; show _ * 32 ≤ _; omega) ?_
        intro v236 w232 S233 hk235 hv237
        have S234 := S227.back 3 rfl S233
        have hyb238 : ∀ c, (vec EMK v236 []).fp c → yng w1 c := fun c hc => (S233.bd 0 _ rfl c hc).2.elim (fun h => Nat.le_trans hy231.size h) (hyb68 c)
        refine ⟨hk235.mono fun c _ hc => hyb68 c hc, ?_⟩
        have hy239 : Keep (yng w1) w1 w232 := hy231.trans (hk235.mono fun c _ hc => hyb68 c hc)
        refine e_next [10] (by kernel_rfl) (by kernel_rfl) ⟨⟨_, _, rfl, rfl, ?_⟩, trivial⟩
        refine s_buildSlice EMK [⟨o, day, day, sgOf n1⟩] (Own.start (X := nob) w232) rfl Tryz.runUnderlying22 Tryz.sizeOf39 Tryz.zeroValue39 rfl ⟨rfl, rfl, trivial⟩ (by decide) ?_
        intro v244 w240 S241 hl243
        have hn245 := S241.new 0 rfl
        have S242 := S234.add hl243 hn245
        refine ⟨.of_le hl243, ?_⟩
        have hyb246 : ∀ c, (vec EMK v244 []).fp c → yng w1 c := fun c hc => Nat.le_trans hy239.size (hn245.bd c hc).1
        have hy247 : Keep (yng w1) w1 w240 := hy239.trans (Keep.of_le hl243)
        refine e_next [11] (by kernel_rfl) (by kernel_rfl) ⟨⟨_, _, rfl, rfl, ?_⟩, trivial⟩
        refine s_append EMK (S242.lend 3 rfl) 0 rfl rfl rfl rfl (vec_rd (S242.at 5 rfl)) Tryz.underlying22 info39 rfl rfl rfl (by unfold maxLen; simp; omega) (by simp; show _ * 32 ≤ _; omega) ?_
        intro v252 w248 S249 hk251 hv253
        have S250 := S242.back 3 rfl S249
        have hyb254 : ∀ c, (vec EMK v252 []).fp c → yng w1 c := fun c hc => (S249.bd 0 _ rfl c hc).2.elim (fun h => Nat.le_trans hy247.size h) (hyb238 c)
        refine ⟨hk251.mono fun c _ hc => hyb238 c hc, ?_⟩
        have hy255 : Keep (yng w1) w1 w248 := hy247.trans (hk251.mono fun c _ hc => hyb238 c hc)
        refine e_exact 14 _ (by kernel_rfl) rfl rfl (by kernel_rfl) rfl (ex_x rfl (fun w1 h1 => x_buildS (out := [_, _]) (ss := [1, 1]) Tryz.zeroValue25 rfl Tryz.runUnderlying25 ⟨Tryz.sizeOf22, Tryz.sizeOf23, trivial⟩ (fill_cons rfl (Rd.cells (vec_rd (S250.at 3 rfl))) rfl (Nat.le_of_ble_eq_true rfl) (fill_cons rfl (Rd.cells (hB.f.le S250.le)) rfl (Nat.le_of_ble_eq_true rfl) fill_nil)))) ?_
        refine e_next [16] (by kernel_rfl) (by kernel_rfl) ⟨⟨_, _, rfl, rfl, ?_⟩, trivial⟩
        refine s_stores (vs := [_, _]) S250 4 rfl rfl rfl rfl (ones_cons (Rd.one (vec_rd (S250.at 3 rfl))) (ones_cons (Rd.one (hB.f.le S250.le)) ones_nil)) Tryz.sizeOf25 (by first | exact Nat.le_refl _ | simp) (splice_all rfl) ?_
        intro w256 S257 hk258
        refine ⟨(yng_blk hy69 hb230 hk258), ?_⟩
        have hy259 : Keep (yng w1) w1 w256 := hy255.trans ((yng_blk hy69 hb230 hk258))
        refine e_done (by kernel_rfl) ?_
        refine l_nil ?_
        exact HK (b229, v252) _ _ ⟨rfl, rfl, rfl, trivial⟩ (S257.pick (L' := [_, _, _]) [0, 4, 3] (by decide) rfl)
      refine s_buildSlice EMK [⟨o, day, day, sgOf n1⟩] (Own.start (X := nob) w226) rfl Tryz.runUnderlying22 Tryz.sizeOf39 Tryz.zeroValue39 rfl ⟨rfl, rfl, trivial⟩ (by decide) ?_
      intro v264 w260 S261 hl263
      have hn265 := S261.new 0 rfl
      have S262 := S227.add hl263 hn265
      refine ⟨.of_le hl263, ?_⟩
      have hyb266 : ∀ c, (vec EMK v264 []).fp c → yng w1 c := fun c hc => Nat.le_trans hy231.size (hn265.bd c hc).1
      have hy267 : Keep (yng w1) w1 w260 := hy231.trans (Keep.of_le hl263)
      refine e_next [3] (by kernel_rfl) (by kernel_rfl) ⟨⟨_, _, rfl, rfl, ?_⟩, trivial⟩
      refine s_append EMK (S262.lend 3 rfl) 0 rfl rfl rfl rfl (hB.m.le S262.le) Tryz.underlying22 info39 rfl rfl rfl (by unfold maxLen; simp; omega) (by simp; show _ * 32 ≤ _; omega) ?_
      intro v272 w268 S269 hk271 hv273
      have S270 := S262.back 3 rfl S269
      have hyb274 : ∀ c, (vec EMK v272 []).fp c → yng w1 c := fun c hc => (S269.bd 0 _ rfl c hc).2.elim (fun h => Nat.le_trans hy267.size h) (hyb68 c)
      refine ⟨hk271.mono fun c _ hc => hyb68 c hc, ?_⟩
      have hy275 : Keep (yng w1) w1 w268 := hy267.trans (hk271.mono fun c _ hc => hyb68 c hc)
      refine e_next [11] (by kernel_rfl) (by kernel_rfl) ⟨⟨_, _, rfl, rfl, ?_⟩, trivial⟩
      refine s_append EMK (S270.lend 3 rfl) 0 rfl rfl rfl rfl (vec_rd (S270.at 5 rfl)) Tryz.underlying22 info39 rfl rfl rfl (by unfold maxLen; simp; omega) (by simp; show _ * 32 ≤ _; omega) ?_
      intro v280 w276 S277 hk279 hv281
      have S278 := S270.back 3 rfl S277
      have hyb282 : ∀ c, (vec EMK v280 []).fp c → yng w1 c := fun c hc => (S277.bd 0 _ rfl c hc).2.elim (fun h => Nat.le_trans hy275.size h) (hyb274 c)
      refine ⟨hk279.mono fun c _ hc => hyb274 c hc, ?_⟩
      have hy283 : Keep (yng w1) w1 w276 := hy275.trans (hk279.mono fun c _ hc => hyb274 c hc)
      refine e_exact 14 _ (by kernel_rfl) rfl rfl (by kernel_rfl) rfl (ex_x rfl (fun w1 h1 => x_buildS (out := [_, _]) (ss := [1, 1]) Tryz.zeroValue25 rfl Tryz.runUnderlying25 ⟨Tryz.sizeOf22, Tryz.sizeOf23, trivial⟩ (fill_cons rfl (Rd.cells (vec_rd (S278.at 3 rfl))) rfl (Nat.le_of_ble_eq_true rfl) (fill_cons rfl (Rd.cells (hB.f.le S278.le)) rfl (Nat.le_of_ble_eq_true rfl) fill_nil)))) ?_
      refine e_next [16] (by kernel_rfl) (by kernel_rfl) ⟨⟨_, _, rfl, rfl, ?_⟩, trivial⟩
      refine s_stores (vs := [_, _]) S278 4 rfl rfl rfl rfl (ones_cons (Rd.one (vec_rd (S278.at 3 rfl))) (ones_cons (Rd.one (hB.f.le S278.le)) ones_nil)) Tryz.sizeOf25 (by first | exact Nat.le_refl _ | simp) (splice_all rfl) ?_
      intro w284 S285 hk286
      refine ⟨(yng_blk hy69 hb230 hk286), ?_⟩
      have hy287 : Keep (yng w1) w1 w284 := hy283.trans ((yng_blk hy69 hb230 hk286))
      refine e_done (by kernel_rfl) ?_
      refine l_nil ?_
      exact HK (b229, v280) _ _ ⟨rfl, rfl, rfl, trivial⟩ (S285.pick (L' := [_, _, _]) [0, 4, 3] (by decide) rfl)
    · skip
      refine s_buildSlice EMK [⟨o, day, day, sgOf n1⟩] (Own.start (X := nob) w58) rfl Tryz.runUnderlying22 Tryz.sizeOf39 Tryz.zeroValue39 rfl ⟨rfl, rfl, trivial⟩ (by decide) ?_
      intro v292 w288 S289 hl291
      have hn293 := S289.new 0 rfl
      have S290 := S60.add hl291 hn293
      refine ⟨.of_le hl291, ?_⟩
      have hyb294 : ∀ c, (vec EMK v292 []).fp c → yng w1 c := fun c hc => Nat.le_trans hy61.size (hn293.bd c hc).1
      have hy295 : Keep (yng w1) w1 w288 := hy61.trans (Keep.of_le hl291)
      refine e_next [0, 15] (by kernel_rfl) (by kernel_rfl) ⟨⟨_, _, rfl, rfl, ?_⟩, ⟨_, _, rfl, rfl, ?_⟩, trivial⟩
      · skip
        refine s_buildSlice EMK [] (Own.start (X := nob) w288) rfl Tryz.runUnderlying22 Tryz.sizeOf39 Tryz.zeroValue39 rfl trivial (by decide) ?_
        intro v300 w296 S297 hl299
        have hn301 := S297.new 0 rfl
        have S298 := S290.add hl299 hn301
        refine ⟨.of_le hl299, ?_⟩
        have hyb302 : ∀ c, (vec EMK v300 []).fp c → yng w1 c := fun c hc => Nat.le_trans hy295.size (hn301.bd c hc).1
        have hy303 : Keep (yng w1) w1 w296 := hy295.trans (Keep.of_le hl299)
        refine e_next [3, 15] (by kernel_rfl) (by kernel_rfl) ⟨⟨_, _, rfl, rfl, ?_⟩, ⟨_, _, rfl, rfl, ?_⟩, trivial⟩
        · skip
          refine s_append EMK (S298.lend 4 rfl) 0 rfl rfl rfl rfl (hB.m.le S298.le) Tryz.underlying22 info39 rfl rfl rfl (by unfold maxLen; simp; omega) (by simp; show _ * 32 ≤ _; omega) ?_
          intro v308 w304 S305 hk307 hv309
          have S306 := S298.back 4 rfl S305
          have hyb310 : ∀ c, (vec EMK v308 []).fp c → yng w1 c := fun c hc => (S305.bd 0 _ rfl c hc).2.elim (fun h => Nat.le_trans hy303.size h) (hyb302 c)
          refine ⟨hk307.mono fun c _ hc => hyb302 c hc, ?_⟩
          have hy311 : Keep (yng w1) w1 w304 := hy303.trans (hk307.mono fun c _ hc => hyb302 c hc)
          refine e_next [11, 15] (by kernel_rfl) (by kernel_rfl) ⟨⟨_, _, rfl, rfl, ?_⟩, ⟨_, _, rfl, rfl, ?_⟩, trivial⟩
          · skip
            refine s_append EMK (S306.lend 4 rfl) 0 rfl rfl rfl rfl (vec_rd (S306.at 3 rfl)) Tryz.underlying22 info39 rfl rfl rfl (by unfold maxLen; simp; omega) (by simp; show _ * 32 ≤ _; omega) ?_
            intro v316 w312 S313 hk315 hv317
            have S314 := S306.back 4 rfl S313
            have hyb318 : ∀ c, (vec EMK v316 []).fp c → yng w1 c := fun c hc => (S313.bd 0 _ rfl c hc).2.elim (fun h => Nat.le_trans hy311.size h) (hyb310 c)
            refine ⟨hk315.mono fun c _ hc => hyb310 c hc, ?_⟩
            have hy319 : Keep (yng w1) w1 w312 := hy311.trans (hk315.mono fun c _ hc => hyb310 c hc)
            refine e_exact 14 _ (by kernel_rfl) rfl rfl (by kernel_rfl) rfl (ex_x rfl (fun w1 h1 => x_buildS (out := [_, _]) (ss := [1, 1]) Tryz.zeroValue25 rfl Tryz.runUnderlying25 ⟨Tryz.sizeOf22, Tryz.sizeOf23, trivial⟩ (fill_cons rfl (Rd.cells (vec_rd (S314.at 4 rfl))) rfl (Nat.le_of_ble_eq_true rfl) (fill_cons rfl (Rd.cells (hB.f.le S314.le)) rfl (Nat.le_of_ble_eq_true rfl) fill_nil)))) ?_
            refine e_next [15] (by kernel_rfl) (by kernel_rfl) ⟨⟨_, _, rfl, rfl, ?_⟩, trivial⟩
            refine s_allocY S314 rfl Tryz.zeroValue25 rfl ?_
            intro b323 w320 S321 hl322 hb324
            refine ⟨.of_le hl322, ?_⟩
            have hy325 : Keep (yng w1) w1 w320 := hy319.trans (Keep.of_le hl322)
            refine e_next [16] (by kernel_rfl) (by kernel_rfl) ⟨⟨_, _, rfl, rfl, ?_⟩, trivial⟩
            refine s_stores (vs := [_, _]) S321 5 rfl rfl rfl rfl (ones_cons (Rd.one (vec_rd (S321.at 4 rfl))) (ones_cons (Rd.one (hB.f.le S321.le)) ones_nil)) Tryz.sizeOf25 (by first | exact Nat.le_refl _ | simp) (splice_all rfl) ?_
            intro w326 S327 hk328
            refine ⟨(yng_blk hy319 hb324 hk328), ?_⟩
            have hy329 : Keep (yng w1) w1 w326 := hy325.trans ((yng_blk hy319 hb324 hk328))
            refine e_done (by kernel_rfl) ?_
            refine l_nil ?_
            exact HK (b323, v316) _ _ ⟨rfl, rfl, rfl, trivial⟩ (S327.pick (L' := [_, _, _]) [0, 5, 4] (by decide) rfl)
          refine s_allocY S306 rfl Tryz.zeroValue25 rfl ?_
          intro b333 w330 S331 hl332 hb334
          refine ⟨.of_le hl332, ?_⟩
          have hy335 : Keep (yng w1) w1 w330 := hy311.trans (Keep.of_le hl332)
          refine e_next [11] (by kernel_rfl) (by kernel_rfl) ⟨⟨_, _, rfl, rfl, ?_⟩, trivial⟩
          refine s_append EMK (S331.lend 4 rfl) 0 rfl rfl rfl rfl (vec_rd (S331.at 3 rfl)) Tryz.underlying22 info39 rfl rfl rfl (by unfold maxLen; simp; omega) (by simp; show _ * 32 ≤ _; omega) ?_
          intro v340 w336 S337 hk339 hv341
          have S338 := S331.back 4 rfl S337
          have hyb342 : ∀ c, (vec EMK v340 []).fp c → yng w1 c := fun c hc => (S337.bd 0 _ rfl c hc).2.elim (fun h => Nat.le_trans hy335.size h) (hyb310 c)
          refine ⟨hk339.mono fun c _ hc => hyb310 c hc, ?_⟩
          have hy343 : Keep (yng w1) w1 w336 := hy335.trans (hk339.mono fun c _ hc => hyb310 c hc)
          refine e_exact 14 _ (by kernel_rfl) rfl rfl (by kernel_rfl) rfl (ex_x rfl (fun w1 h1 => x_buildS (out := [_, _]) (ss := [1, 1]) Tryz.zeroValue25 rfl Tryz.runUnderlying25 ⟨Tryz.sizeOf22, Tryz.sizeOf23, trivial⟩ (fill_cons rfl (Rd.cells (vec_rd (S338.at 4 rfl))) rfl (Nat.le_of_ble_eq_true rfl) (fill_cons rfl (Rd.cells (hB.f.le S338.le)) rfl (Nat.le_of_ble_eq_true rfl) fill_nil)))) ?_
          refine e_next [16] (by kernel_rfl) (by kernel_rfl) ⟨⟨_, _, rfl, rfl, ?_⟩, trivial⟩
          refine s_stores (vs := [_, _]) S338 5 rfl rfl rfl rfl (ones_cons (Rd.one (vec_rd (S338.at 4 rfl))) (ones_cons (Rd.one (hB.f.le S338.le)) ones_nil)) Tryz.sizeOf25 (by first | exact Nat.le_refl _ | simp) (splice_all rfl) ?_
          intro w344 S345 hk346
          refine ⟨(yng_blk hy311 hb334 hk346), ?_⟩
          have hy347 : Keep (yng w1) w1 w344 := hy343.trans ((yng_blk hy311 hb334 hk346))
          refine e_done (by kernel_rfl) ?_
          refine l_nil ?_
          exact HK (b333, v340) _ _ ⟨rfl, rfl, rfl, trivial⟩ (S345.pick (L' := [_, _, _]) [0, 5, 4] (by decide) rfl)
        refine s_allocY S298 rfl Tryz.zeroValue25 rfl ?_
        intro b351 w348 S349 hl350 hb352
        refine ⟨.of_le hl350, ?_⟩
        have hy353 : Keep (yng w1) w1 w348 := hy303.trans (Keep.of_le hl350)
        refine e_next [3] (by kernel_rfl) (by kernel_rfl) ⟨⟨_, _, rfl, rfl, ?_⟩, trivial⟩
        refine s_append EMK (S349.lend 4 rfl) 0 rfl rfl rfl rfl (hB.m.le S349.le) Tryz.underlying22 info39 rfl rfl rfl (by unfold maxLen; simp; omega) (by simp; show _ * 32 ≤ _; omega) ?_
        intro v358 w354 S355 hk357 hv359
        have S356 := S349.back 4 rfl S355
        have hyb360 : ∀ c, (vec EMK v358 []).fp c → yng w1 c := fun c hc => (S355.bd 0 _ rfl c hc).2.elim (fun h => Nat.le_trans hy353.size h) (hyb302 c)
        refine ⟨hk357.mono fun c _ hc => hyb302 c hc, ?_⟩
        have hy361 : Keep (yng w1) w1 w354 := hy353.trans (hk357.mono fun c _ hc => hyb302 c hc)
        refine e_next [11] (by kernel_rfl) (by kernel_rfl) ⟨⟨_, _, rfl, rfl, ?_⟩, trivial⟩
        refine s_append EMK (S356.lend 4 rfl) 0 rfl rfl rfl rfl (vec_rd (S356.at 3 rfl)) Tryz.underlying22 info39 rfl rfl rfl (by unfold maxLen; simp; omega) (by simp; show _ * 32 ≤ _; omega) ?_
        intro v366 w362 S363 hk365 hv367
        have S364 := S356.back 4 rfl S363
        have hyb368 : ∀ c, (vec EMK v366 []).fp c → yng w1 c := fun c hc => (S363.bd 0 _ rfl c hc).2.elim (fun h => Nat.le_trans hy361.size h) (hyb360 c)
        refine ⟨hk365.mono fun c _ hc => hyb360 c hc, ?_⟩
        have hy369 : Keep (yng w1) w1 w362 := hy361.trans (hk365.mono fun c _ hc => hyb360 c hc)
        refine e_exact 14 _ (by kernel_rfl) rfl rfl (by kernel_rfl) rfl (ex_x rfl (fun w1 h1 => x_buildS (out := [_, _]) (ss := [1, 1]) Tryz.zeroValue25 rfl Tryz.runUnderlying25 ⟨Tryz.sizeOf22, Tryz.sizeOf23, trivial⟩ (fill_cons rfl (Rd.cells (vec_rd (S364.at 4 rfl))) rfl (Nat.le_of_ble_eq_true rfl) (fill_cons rfl (Rd.cells (hB.f.le S364.le)) rfl (Nat.le_of_ble_eq_true rfl) fill_nil)))) ?_
        refine e_next [16] (by kernel_rfl) (by kernel_rfl) ⟨⟨_, _, rfl, rfl, ?_⟩, trivial⟩
        refine s_stores (vs := [_, _]) S364 5 rfl rfl rfl rfl (ones_cons (Rd.one (vec_rd (S364.at 4 rfl))) (ones_cons (Rd.one (hB.f.le S364.le)) ones_nil)) Tryz.sizeOf25 (by first | exact Nat.le_refl _ | simp) (splice_all rfl) ?_
        intro w370 S371 hk372
        refine ⟨(yng_blk hy303 hb352 hk372), ?_⟩
        have hy373 : Keep (yng w1) w1 w370 := hy369.trans ((yng_blk hy303 hb352 hk372))
        refine e_done (by kernel_rfl) ?_
        refine l_nil ?_
        exact HK (b351, v366) _ _ ⟨rfl, rfl, rfl, trivial⟩ (S371.pick (L' := [_, _, _]) [0, 5, 4] (by decide) rfl)
      refine s_allocY S290 rfl Tryz.zeroValue25 rfl ?_
      intro b377 w374 S375 hl376 hb378
      refine ⟨.of_le hl376, ?_⟩
      have hy379 : Keep (yng w1) w1 w374 := hy295.trans (Keep.of_le hl376)
      refine e_next [0] (by kernel_rfl) (by kernel_rfl) ⟨⟨_, _, rfl, rfl, ?_⟩, trivial⟩
      refine s_buildSlice EMK [] (Own.start (X := nob) w374) rfl Tryz.runUnderlying22 Tryz.sizeOf39 Tryz.zeroValue39 rfl trivial (by decide) ?_
      intro v384 w380 S381 hl383
      have hn385 := S381.new 0 rfl
      have S382 := S375.add hl383 hn385
      refine ⟨.of_le hl383, ?_⟩
      have hyb386 : ∀ c, (vec EMK v384 []).fp c → yng w1 c := fun c hc => Nat.le_trans hy379.size (hn385.bd c hc).1
      have hy387 : Keep (yng w1) w1 w380 := hy379.trans (Keep.of_le hl383)
      refine e_next [3] (by kernel_rfl) (by kernel_rfl) ⟨⟨_, _, rfl, rfl, ?_⟩, trivial⟩
      refine s_append EMK (S382.lend 5 rfl) 0 rfl rfl rfl rfl (hB.m.le S382.le) Tryz.underlying22 info39 rfl rfl rfl (by unfold maxLen; simp; omega) (by simp; show _ * 32 ≤ _; omega) ?_
      intro v392 w388 S389 hk391 hv393
      have S390 := S382.back 5 rfl S389
      have hyb394 : ∀ c, (vec EMK v392 []).fp c → yng w1 c := fun c hc => (S389.bd 0 _ rfl c hc).2.elim (fun h => Nat.le_trans hy387.size h) (hyb386 c)
      refine ⟨hk391.mono fun c _ hc => hyb386 c hc, ?_⟩
      have hy395 : Keep (yng w1) w1 w388 := hy387.trans (hk391.mono fun c _ hc => hyb386 c hc)
      refine e_next [11] (by kernel_rfl) (by kernel_rfl) ⟨⟨_, _, rfl, rfl, ?_⟩, trivial⟩
      refine s_append EMK (S390.lend 5 rfl) 0 rfl rfl rfl rfl (vec_rd (S390.at 3 rfl)) Tryz.underlying22 info39 rfl rfl rfl (by unfold maxLen; simp; omega) (by simp; show _ * 32 ≤ _; omega) ?_
      intro v400 w396 S397 hk399 hv401
      have S398 := S390.back 5 rfl S397
      have hyb402 : ∀ c, (vec EMK v400 []).fp c → yng w1 c := fun c hc => (S397.bd 0 _ rfl c hc).2.elim (fun h => Nat.le_trans hy395.size h) (hyb394 c)
      refine ⟨hk399.mono fun c _ hc => hyb394 c hc, ?_⟩
      have hy403 : Keep (yng w1) w1 w396 := hy395.trans (hk399.mono fun c _ hc => hyb394 c hc)
      refine e_exact 14 _ (by kernel_rfl) rfl rfl (by kernel_rfl) rfl (ex_x rfl (fun w1 h1 => x_buildS (out := [_, _]) (ss := [1, 1]) Tryz.zeroValue25 rfl Tryz.runUnderlying25 ⟨Tryz.sizeOf22, Tryz.sizeOf23, trivial⟩ (fill_cons rfl (Rd.cells (vec_rd (S398.at 5 rfl))) rfl (Nat.le_of_ble_eq_true rfl) (fill_cons rfl (Rd.cells (hB.f.le S398.le)) rfl (Nat.le_of_ble_eq_true rfl) fill_nil)))) ?_
      refine e_next [16] (by kernel_rfl) (by kernel_rfl) ⟨⟨_, _, rfl, rfl, ?_⟩, trivial⟩
      refine s_stores (vs := [_, _]) S398 4 rfl rfl rfl rfl (ones_cons (Rd.one (vec_rd (S398.at 5 rfl))) (ones_cons (Rd.one (hB.f.le S398.le)) ones_nil)) Tryz.sizeOf25 (by first | exact Nat.le_refl _ | simp) (splice_all rfl) ?_
      intro w404 S405 hk406
      refine ⟨(yng_blk hy295 hb378 hk406), ?_⟩
      have hy407 : Keep (yng w1) w1 w404 := hy403.trans ((yng_blk hy295 hb378 hk406))
      refine e_done (by kernel_rfl) ?_
      refine l_nil ?_
      exact HK (b377, v400) _ _ ⟨rfl, rfl, rfl, trivial⟩ (S405.pick (L' := [_, _, _]) [0, 4, 5] (by decide) rfl)
    refine s_allocY S60 rfl Tryz.zeroValue25 rfl ?_
    intro b411 w408 S409 hl410 hb412
    refine ⟨.of_le hl410, ?_⟩
    have hy413 : Keep (yng w1) w1 w408 := hy61.trans (Keep.of_le hl410)
    refine e_next [0, 10] (by kernel_rfl) (by kernel_rfl) ⟨⟨_, _, rfl, rfl, ?_⟩, ⟨_, _, rfl, rfl, ?_⟩, trivial⟩
    · skip
      refine s_buildSlice EMK [] (Own.start (X := nob) w408) rfl Tryz.runUnderlying22 Tryz.sizeOf39 Tryz.zeroValue39 rfl trivial (by decide) ?_
      intro v418 w414 S415 hl417
      have hn419 := S415.new 0 rfl
      have S416 := S409.add hl417 hn419
      refine ⟨.of_le hl417, ?_⟩
      have hyb420 : ∀ c, (vec EMK v418 []).fp c → yng w1 c := fun c hc => Nat.le_trans hy413.size (hn419.bd c hc).1
      have hy421 : Keep (yng w1) w1 w414 := hy413.trans (Keep.of_le hl417)
      refine e_next [3, 10] (by kernel_rfl) (by kernel_rfl) ⟨⟨_, _, rfl, rfl, ?_⟩, ⟨_, _, rfl, rfl, ?_⟩, trivial⟩
      · skip
        refine s_append EMK (S416.lend 4 rfl) 0 rfl rfl rfl rfl (hB.m.le S416.le) Tryz.underlying22 info39 rfl rfl rfl (by unfold maxLen; simp; omega) (by simp; show _ * 32 ≤ _; omega) ?_
        intro v426 w422 S423 hk425 hv427
        have S424 := S416.back 4 rfl S423
        have hyb428 : ∀ c, (vec EMK v426 []).fp c → yng w1 c := fun c hc => (S423.bd 0 _ rfl c hc).2.elim (fun h => Nat.le_trans hy421.size h) (hyb420 c)
        refine ⟨hk425.mono fun c _ hc => hyb420 c hc, ?_⟩
        have hy429 : Keep (yng w1) w1 w422 := hy421.trans (hk425.mono fun c _ hc => hyb420 c hc)
        refine e_next [10] (by kernel_rfl) (by kernel_rfl) ⟨⟨_, _, rfl, rfl, ?_⟩, trivial⟩
        refine s_buildSlice EMK [⟨o, day, day, sgOf n1⟩] (Own.start (X := nob) w422) rfl Tryz.runUnderlying22 Tryz.sizeOf39 Tryz.zeroValue39 rfl ⟨rfl, rfl, trivial⟩ (by decide) ?_
        intro v434 w430 S431 hl433
        have hn435 := S431.new 0 rfl
        have S432 := S424.add hl433 hn435
        refine ⟨.of_le hl433, ?_⟩
        have hyb436 : ∀ c, (vec EMK v434 []).fp c → yng w1 c := fun c hc => Nat.le_trans hy429.size (hn435.bd c hc).1
        have hy437 : Keep (yng w1) w1 w430 := hy429.trans (Keep.of_le hl433)
        refine e_next [11] (by kernel_rfl) (by kernel_rfl) ⟨⟨_, _, rfl, rfl, ?_⟩, trivial⟩
        refine s_append EMK (S432.lend 4 rfl) 0 rfl rfl rfl rfl (vec_rd (S432.at 5 rfl)) Tryz.underlying22 info39 rfl rfl rfl (by unfold maxLen; simp; omega) (by simp; show _ * 32 ≤ _; omega) ?_
        intro v442 w438 S439 hk441 hv443
        have S440 := S432.back 4 rfl S439
        have hyb444 : ∀ c, (vec EMK v442 []).fp c → yng w1 c := fun c hc => (S439.bd 0 _ rfl c hc).2.elim (fun h => Nat.le_trans hy437.size h) (hyb428 c)
        refine ⟨hk441.mono fun c _ hc => hyb428 c hc, ?_⟩
        have hy445 : Keep (yng w1) w1 w438 := hy437.trans (hk441.mono fun c _ hc => hyb428 c hc)
        refine e_exact 14 _ (by kernel_rfl) rfl rfl (by kernel_rfl) rfl (ex_x rfl (fun w1 h1 => x_buildS (out := [_, _]) (ss := [1, 1]) Tryz.zeroValue25 rfl Tryz.runUnderlying25 ⟨Tryz.sizeOf22, Tryz.sizeOf23, trivial⟩ (fill_cons rfl (Rd.cells (vec_rd (S440.at 4 rfl))) rfl (Nat.le_of_ble_eq_true rfl) (fill_cons rfl (Rd.cells (hB.f.le S440.le)) rfl (Nat.le_of_ble_eq_true rfl) fill_nil)))) ?_
        refine e_next [16] (by kernel_rfl) (by kernel_rfl) ⟨⟨_, _, rfl, rfl, ?_⟩, trivial⟩
        refine s_stores (vs := [_, _]) S440 3 rfl rfl rfl rfl (ones_cons (Rd.one (vec_rd (S440.at 4 rfl))) (ones_cons (Rd.one (hB.f.le S440.le)) ones_nil)) Tryz.sizeOf25 (by first | exact Nat.le_refl _ | simp) (splice_all rfl) ?_
        intro w446 S447 hk448
        refine ⟨(yng_blk hy61 hb412 hk448), ?_⟩
        have hy449 : Keep (yng w1) w1 w446 := hy445.trans ((yng_blk hy61 hb412 hk448))
        refine e_done (by kernel_rfl) ?_
        refine l_nil ?_
        exact HK (b411, v442) _ _ ⟨rfl, rfl, rfl, trivial⟩ (S447.pick (L' := [_, _, _]) [0, 3, 4] (by decide) rfl)
      refine s_buildSlice EMK [⟨o, day, day, sgOf n1⟩] (Own.start (X := nob) w414) rfl Tryz.runUnderlying22 Tryz.sizeOf39 Tryz.zeroValue39 rfl ⟨rfl, rfl, trivial⟩ (by decide) ?_
      intro v454 w450 S451 hl453
      have hn455 := S451.new 0 rfl
      have S452 := S416.add hl453 hn455
      refine ⟨.of_le hl453, ?_⟩
      have hyb456 : ∀ c, (vec EMK v454 []).fp c → yng w1 c := fun c hc => Nat.le_trans hy421.size (hn455.bd c hc).1
      have hy457 : Keep (yng w1) w1 w450 := hy421.trans (Keep.of_le hl453)
      refine e_next [3] (by kernel_rfl) (by kernel_rfl) ⟨⟨_, _, rfl, rfl, ?_⟩, trivial⟩
      refine s_append EMK (S452.lend 4 rfl) 0 rfl rfl rfl rfl (hB.m.le S452.le) Tryz.underlying22 info39 rfl rfl rfl (by unfold maxLen; simp; omega) (by simp; show _ * 32 ≤ _; omega) ?_
      intro v462 w458 S459 hk461 hv463
      have S460 := S452.back 4 rfl S459
      have hyb464 : ∀ c, (vec EMK v462 []).fp c → yng w1 c := fun c hc => (S459.bd 0 _ rfl c hc).2.elim (fun h => Nat.le_trans hy457.size h) (hyb420 c)
      refine ⟨hk461.mono fun c _ hc => hyb420 c hc, ?_⟩
      have hy465 : Keep (yng w1) w1 w458 := hy457.trans (hk461.mono fun c _ hc => hyb420 c hc)
      refine e_next [11] (by kernel_rfl) (by kernel_rfl) ⟨⟨_, _, rfl, rfl, ?_⟩, trivial⟩
      refine s_append EMK (S460.lend 4 rfl) 0 rfl rfl rfl rfl (vec_rd (S460.at 5 rfl)) Tryz.underlying22 info39 rfl rfl rfl (by unfold maxLen; simp; omega) (by simp; show _ * 32 ≤ _; omega) ?_
      intro v470 w466 S467 hk469 hv471
      have S468 := S460.back 4 rfl S467
      have hyb472 : ∀ c, (vec EMK v470 []).fp c → yng w1 c := fun c hc => (S467.bd 0 _ rfl c hc).2.elim (fun h => Nat.le_trans hy465.size h) (hyb464 c)
      refine ⟨hk469.mono fun c _ hc => hyb464 c hc, ?_⟩
      have hy473 : Keep (yng w1) w1 w466 := hy465.trans (hk469.mono fun c _ hc => hyb464 c hc)
      refine e_exact 14 _ (by kernel_rfl) rfl rfl (by kernel_rfl) rfl (ex_x rfl (fun w1 h1 => x_buildS (out := [_, _]) (ss := [1, 1]) Tryz.zeroValue25 rfl Tryz.runUnderlying25 ⟨Tryz.sizeOf22, Tryz.sizeOf23, trivial⟩ (fill_cons rfl (Rd.cells (vec_rd (S468.at 4 rfl))) rfl (Nat.le_of_ble_eq_true rfl) (fill_cons rfl (Rd.cells (hB.f.le S468.le)) rfl (Nat.le_of_ble_eq_true rfl) fill_nil)))) ?_
      refine e_next [16] (by kernel_rfl) (by kernel_rfl) ⟨⟨_, _, rfl, rfl, ?_⟩, trivial⟩
      refine s_stores (vs := [_, _]) S468 3 rfl rfl rfl rfl (ones_cons (Rd.one (vec_rd (S468.at 4 rfl))) (ones_cons (Rd.one (hB.f.le S468.le)) ones_nil)) Tryz.sizeOf25 (by first | exact Nat.le_refl _ | simp) (splice_all rfl) ?_
      intro w474 S475 hk476
      refine ⟨(yng_blk hy61 hb412 hk476), ?_⟩
      have hy477 : Keep (yng w1) w1 w474 := hy473.trans ((yng_blk hy61 hb412 hk476))
      refine e_done (by kernel_rfl) ?_
      refine l_nil ?_
      exact HK (b411, v470) _ _ ⟨rfl, rfl, rfl, trivial⟩ (S475.pick (L' := [_, _, _]) [0, 3, 4] (by decide) rfl)
    refine s_buildSlice EMK [⟨o, day, day, sgOf n1⟩] (Own.start (X := nob) w408) rfl Tryz.runUnderlying22 Tryz.sizeOf39 Tryz.zeroValue39 rfl ⟨rfl, rfl, trivial⟩ (by decide) ?_
    intro v482 w478 S479 hl481
    have hn483 := S479.new 0 rfl
    have S480 := S409.add hl481 hn483
    refine ⟨.of_le hl481, ?_⟩
    have hyb484 : ∀ c, (vec EMK v482 []).fp c → yng w1 c := fun c hc => Nat.le_trans hy413.size (hn483.bd c hc).1
    have hy485 : Keep (yng w1) w1 w478 := hy413.trans (Keep.of_le hl481)
    refine e_next [0] (by kernel_rfl) (by kernel_rfl) ⟨⟨_, _, rfl, rfl, ?_⟩, trivial⟩
    refine s_buildSlice EMK [] (Own.start (X := nob) w478) rfl Tryz.runUnderlying22 Tryz.sizeOf39 Tryz.zeroValue39 rfl trivial (by decide) ?_
    intro v490 w486 S487 hl489
    have hn491 := S487.new 0 rfl
    have S488 := S480.add hl489 hn491
    refine ⟨.of_le hl489, ?_⟩
    have hyb492 : ∀ c, (vec EMK v490 []).fp c → yng w1 c := fun c hc => Nat.le_trans hy485.size (hn491.bd c hc).1
    have hy493 : Keep (yng w1) w1 w486 := hy485.trans (Keep.of_le hl489)
    refine e_next [3] (by kernel_rfl) (by kernel_rfl) ⟨⟨_, _, rfl, rfl, ?_⟩, trivial⟩
    refine s_append EMK (S488.lend 5 rfl) 0 rfl rfl rfl rfl (hB.m.le S488.le) Tryz.underlying22 info39 rfl rfl rfl (by unfold maxLen; simp; omega) (by simp; show _ * 32 ≤ _; omega) ?_
    intro v498 w494 S495 hk497 hv499
    have S496 := S488.back 5 rfl S495
    have hyb500 : ∀ c, (vec EMK v498 []).fp c → yng w1 c := fun c hc => (S495.bd 0 _ rfl c hc).2.elim (fun h => Nat.le_trans hy493.size h) (hyb492 c)
    refine ⟨hk497.mono fun c _ hc => hyb492 c hc, ?_⟩
    have hy501 : Keep (yng w1) w1 w494 := hy493.trans (hk497.mono fun c _ hc => hyb492 c hc)
    refine e_next [11] (by kernel_rfl) (by kernel_rfl) ⟨⟨_, _, rfl, rfl, ?_⟩, trivial⟩
    refine s_append EMK (S496.lend 5 rfl) 0 rfl rfl rfl rfl (vec_rd (S496.at 4 rfl)) Tryz.underlying22 info39 rfl rfl rfl (by unfold maxLen; simp; omega) (by simp; show _ * 32 ≤ _; omega) ?_
    intro v506 w502 S503 hk505 hv507
    have S504 := S496.back 5 rfl S503
    have hyb508 : ∀ c, (vec EMK v506 []).fp c → yng w1 c := fun c hc => (S503.bd 0 _ rfl c hc).2.elim (fun h => Nat.le_trans hy501.size h) (hyb500 c)
    refine ⟨hk505.mono fun c _ hc => hyb500 c hc, ?_⟩
    have hy509 : Keep (yng w1) w1 w502 := hy501.trans (hk505.mono fun c _ hc => hyb500 c hc)
    refine e_exact 14 _ (by kernel_rfl) rfl rfl (by kernel_rfl) rfl (ex_x rfl (fun w1 h1 => x_buildS (out := [_, _]) (ss := [1, 1]) Tryz.zeroValue25 rfl Tryz.runUnderlying25 ⟨Tryz.sizeOf22, Tryz.sizeOf23, trivial⟩ (fill_cons rfl (Rd.cells (vec_rd (S504.at 5 rfl))) rfl (Nat.le_of_ble_eq_true rfl) (fill_cons rfl (Rd.cells (hB.f.le S504.le)) rfl (Nat.le_of_ble_eq_true rfl) fill_nil)))) ?_
    refine e_next [16] (by kernel_rfl) (by kernel_rfl) ⟨⟨_, _, rfl, rfl, ?_⟩, trivial⟩
    refine s_stores (vs := [_, _]) S504 3 rfl rfl rfl rfl (ones_cons (Rd.one (vec_rd (S504.at 5 rfl))) (ones_cons (Rd.one (hB.f.le S504.le)) ones_nil)) Tryz.sizeOf25 (by first | exact Nat.le_refl _ | simp) (splice_all rfl) ?_
    intro w510 S511 hk512
    refine ⟨(yng_blk hy61 hb412 hk512), ?_⟩
    have hy513 : Keep (yng w1) w1 w510 := hy509.trans ((yng_blk hy61 hb412 hk512))
    refine e_done (by kernel_rfl) ?_
    refine l_nil ?_
    exact HK (b411, v506) _ _ ⟨rfl, rfl, rfl, trivial⟩ (S511.pick (L' := [_, _, _]) [0, 3, 5] (by decide) rfl)
  have S514 := S2.step hl268
  refine l_x rfl (x_mv rfl) ?_
  refine l_x rfl (x_extract rfl rfl) ?_
  refine l_x rfl (x_extract rfl rfl) ?_
  refine l_alloc S514 rfl Tryz.zeroValue30 rfl ?_
  intro b518 w515 S516 hl517
  refine l_stores (vs := [_, _, _, _, _, _]) S516 1 rfl rfl rfl rfl (ones_cons rfl (ones_cons rfl (ones_cons rfl (ones_cons rfl (ones_cons rfl (ones_cons rfl ones_nil)))))) Tryz.sizeOf30 (by first | exact Nat.le_refl _ | simp) (splice_all rfl) ?_
  intro w519 S520 hk521
  refine l_x rfl (x_as rfl) ?_
  refine l_nil ?_
  refine r_seq ?_
  refine r_seq ?_
  refine r_region ?_
  refine l_x rfl (x_mv rfl) ?_
  refine l_x rfl (x_neq rfl rfl) ?_
  refine l_nil ?_
  refine r_ifd rfl (fun hc30 => ?_) (fun hc30 => ?_)
  · skip
    refine r_seq ?_
    refine r_region ?_
    refine l_call [] [] [] rfl rfl Tryz.call20 rfl (c_marked _ (hG.le S520.le)) ?_
    rintro _ w522 ⟨rfl, hl524⟩
    have S523 := S520.step hl524
    refine l_x rfl (x_mv rfl) ?_
    refine l_x rfl (x_load rfl (ld_blks (S523.blk 1 rfl) Tryz.isAgg30 Tryz.sizeOf30 rfl rfl)) ?_
    refine l_x rfl (x_buildS (out := [_, _, _, _, _, _]) (ss := [6]) Tryz.zeroValue30 rfl Tryz.runUnderlying30 ⟨Tryz.sizeOf28, trivial⟩ fill_nil) ?_
    refine l_x rfl (x_eqS (b := zeroSg) keySi ex_zok ex_zok rfl rfl) ?_
    refine l_x rfl (x_pick_t rfl rfl) ?_
    refine l_x rfl (x_as rfl) ?_
    refine l_nil ?_
    refine r_ret (rs := [.tmp 6]) [_] Tryz.func7 rfl ⟨rfl, trivial⟩ ?_
    exact ⟨congrArg Value.bool (decide_eq_true rfl), S523.le⟩
  exact absurd (by decide) hc30

end Go.Proofs
