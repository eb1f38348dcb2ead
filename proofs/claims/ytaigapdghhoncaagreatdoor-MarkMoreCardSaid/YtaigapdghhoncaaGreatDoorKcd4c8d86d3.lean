/- Texts joined for claims: LMore. -/
import Derived.Test.YtaigapdghhoncaaGreatDoorK8a0fe47e94
import Derived.Test.YtaigapdghhoncaaGreatDoorKd5691c7898
import Derived.Test.YtaigapdghhoncaaGreatDoorK0d4e033ce2
set_option linter.unusedVariables false
set_option linter.unusedSimpArgs false
set_option linter.unusedSectionVars false
/-
  Contracts of functions of the program: each by symbolic execution of its text.
-/
namespace Go.Proofs
open Go Go.Vk Go.Vk.Flow

open Go.Vk.Mark
open Go.Vk.Deed (i64 rng rng_iff owners sumI sumI_cons sumI_snoc)

set_option maxHeartbeats 4000000 in
/-- couchant/couchantlaw03.MarkMore. -/
theorem lawMore (b : Sm) (vm vf : Value) (day : Int) (s : Sg) (m : Mk) (f : Fde) (fade : Bool) (hs : SgOk s) (hmk : MkOk m) (hfd : FdOk f) (w : World) (hB : SmR 39 41 w vm vf b) (hG : Gl w) :
    Cl Tryz.prog 5 #[.agg #[vm, vf], Value.int .i64 day, Value.agg (encSg s).toArray, Value.agg (encMk m).toArray, Value.agg (encFd f).toArray, .bool fade] w fun v w' => v = .bool true ∧ Le w w' := by
  have hlm := hB.lm
  have hlf := hB.lf
  refine fn_of_run (args := [_, _, _, _, _, _]) 125 Tryz.func5 rfl rfl rfl fun cs => ?_
  have S := Own.start (X := nob) w
  refine r_seq ?_
  refine r_region ?_
  refine l_box S rfl rfl ?_
  intro b4 w1 S2 hl3
  refine l_box S2 rfl rfl ?_
  intro b8 w5 S6 hl7
  refine l_box S6 rfl rfl ?_
  intro b12 w9 S10 hl11
  refine l_box S10 rfl rfl ?_
  intro b16 w13 S14 hl15
  refine l_x rfl (x_as rfl) ?_
  refine l_nil ?_
  refine r_seq ?_
  refine r_seq ?_
  refine r_region ?_
  refine l_x rfl (x_fieldAddr rfl Tryz.runUnderlying25 rfl Tryz.sizeOf22 (by decide)) ?_
  refine l_x rfl (x_load rfl (ld_blk (S14.blk 0 rfl) Tryz.isAgg22 rfl)) ?_
  refine l_x rfl (x_len (hB.m.le S14.le) rfl Tryz.runUnderlying22) ?_
  refine l_x rfl (x_gtr rfl rfl) ?_
  refine l_x rfl (x_mv rfl) ?_
  refine l_splitd (d := 28) rfl (fun hg28 => ?_) (fun hg28 => ?_)
  · skip
    refine l_pass rfl ?_
    refine l_pass rfl ?_
    refine l_pass rfl ?_
    refine l_pass rfl ?_
    refine l_x rfl (x_pick_t rfl rfl) ?_
    refine l_nil ?_
    refine r_true rfl ?_
    refine r_seq ?_
    refine r_region ?_
    refine l_call [] [] [] rfl rfl Tryz.call20 rfl (c_marked _ (hG.le S14.le)) ?_
    rintro _ w17 ⟨rfl, hl19⟩
    have S18 := S14.step hl19
    refine l_x rfl (x_as rfl) ?_
    refine l_nil ?_
    refine r_ret (rs := [.tmp 12]) [_] Tryz.func5 rfl ⟨rfl, trivial⟩ ?_
    exact ⟨rfl, S18.le⟩
  refine l_x rfl (x_fieldAddr rfl Tryz.runUnderlying25 rfl Tryz.sizeOf23 (by decide)) ?_
  refine l_x rfl (x_load rfl (ld_blk (S14.blk 0 rfl) Tryz.isAgg23 rfl)) ?_
  refine l_x rfl (x_len (hB.f.le S14.le) rfl Tryz.runUnderlying23) ?_
  refine l_x rfl (x_gtr rfl rfl) ?_
  refine l_x rfl (x_pick_f rfl rfl) ?_
  refine l_nil ?_
  refine r_ifd rfl (fun hc33 => ?_) (fun hc33 => ?_)
  · skip
    refine r_seq ?_
    refine r_region ?_
    refine l_call [] [] [] rfl rfl Tryz.call20 rfl (c_marked _ (hG.le S14.le)) ?_
    rintro _ w20 ⟨rfl, hl22⟩
    have S21 := S14.step hl22
    refine l_x rfl (x_as rfl) ?_
    refine l_nil ?_
    refine r_ret (rs := [.tmp 12]) [_] Tryz.func5 rfl ⟨rfl, trivial⟩ ?_
    exact ⟨rfl, S21.le⟩
  refine r_skip ?_
  refine r_seq ?_
  refine r_cut (G := Nat × Value × Value) (fun ⟨b13, v1, v2⟩ => [(1, Value.int .i64 day), (5, .bool fade), (6, .pointer (some ⟨b4, 0, none⟩)), (8, .pointer (some ⟨b8, 0, none⟩)), (9, .pointer (some ⟨b12, 0, none⟩)), (10, .pointer (some ⟨b16, 0, none⟩)), (13, .pointer (some ⟨b13, 0, none⟩))]) (fun ⟨b13, v1, v2⟩ w' => Own nob w w' [blk b4 [vm, vf] 25, blk b8 (encSg s) 30, blk b12 (encMk m) 39, blk b16 (encFd f) 41, blk b13 [v1, v2] 25, vec EMK v1 b.marks, vec EFD v2 b.fades]) ?_ (fun HK => ?_)
  · rintro ⟨b13, v1, v2⟩ ρ9 w23 S24
    refine r_seq ?_
    refine r_seq ?_
    refine r_region ?_
    refine l_x rfl (x_mv rfl) ?_
    refine l_nil ?_
    refine r_cut (G := Value × Value) (fun ⟨vA, vB⟩ => [(1, Value.int .i64 day), (6, .pointer (some ⟨b4, 0, none⟩)), (8, .pointer (some ⟨b8, 0, none⟩)), (13, .pointer (some ⟨b13, 0, none⟩))]) (fun ⟨vA, vB⟩ w' => Own nob w w' [blk b4 [vm, vf] 25, blk b8 (encSg s) 30, blk b12 (encMk m) 39, blk b16 (encFd f) 41, blk b13 [vA, vB] 25, vec EMK vA (moreS b m f fade).marks, vec EFD vB (moreS b m f fade).fades]) ?_ (fun HK => ?_)
    · rintro ⟨vA, vB⟩ ρ9 w25 S26
      have hB2 := more_smr hmk hfd hB (by omega) (by omega) (vec_rd (S26.at 5 rfl)) (vec_rd (S26.at 6 rfl))
      have hY9 := S26.blk 4 rfl
      have hX9 := S26.blk 0 rfl
      have hZ9 := S26.blk 1 rfl
      have hL9 := S26.le
      have hG := hG.le hL9
      refine r_seq ?_
      refine r_seq ?_
      have S27 := Own.start (X := nob) w25
      refine r_region ?_
      refine l_x rfl (x_load rfl (ld_blks (hX9.keep S27.le id) Tryz.isAgg25 Tryz.sizeOf25 rfl rfl)) ?_
      refine l_call [] [] [_] rfl rfl Tryz.call24 rfl (c_CheckSmits b vm vf _ (hB.le (hL9.trans S27.le))) ?_
      rintro _ w28 ⟨rfl, hl30⟩
      have S29 := S27.step hl30
      refine l_x rfl (x_neq rfl rfl) ?_
      refine l_x rfl (x_mv rfl) ?_
      refine l_splitd (d := 60) rfl (fun hg60 => ?_) (fun hg60 => ?_)
      · skip
        refine l_pass rfl ?_
        refine l_pass rfl ?_
        refine l_pass rfl ?_
        refine l_x rfl (x_pick_t rfl rfl) ?_
        refine l_nil ?_
        refine r_true rfl ?_
        refine r_seq ?_
        refine r_region ?_
        refine l_call [] [] [] rfl rfl Tryz.call20 rfl (c_marked _ (hG.le S29.le)) ?_
        rintro _ w31 ⟨rfl, hl33⟩
        have S32 := S29.step hl33
        refine l_x rfl (x_as rfl) ?_
        refine l_nil ?_
        refine r_ret (rs := [.tmp 12]) [_] Tryz.func5 rfl ⟨rfl, trivial⟩ ?_
        exact ⟨rfl, hL9.trans S32.le⟩
      refine l_x rfl (x_load rfl (ld_blks (hY9.keep S29.le id) Tryz.isAgg25 Tryz.sizeOf25 rfl rfl)) ?_
      refine l_call [] [] [_] rfl rfl Tryz.call24 rfl (c_CheckSmits (moreS b m f fade) vA vB _ (hB2.le S29.le)) ?_
      rintro _ w34 ⟨rfl, hl36⟩
      have S35 := S29.step hl36
      refine l_x rfl (x_neq rfl rfl) ?_
      refine l_x rfl (x_pick_f rfl rfl) ?_
      refine l_nil ?_
      refine r_ifd rfl (fun hc64 => ?_) (fun hc64 => ?_)
      · skip
        refine r_seq ?_
        refine r_region ?_
        refine l_call [] [] [] rfl rfl Tryz.call20 rfl (c_marked _ (hG.le S35.le)) ?_
        rintro _ w37 ⟨rfl, hl39⟩
        have S38 := S35.step hl39
        refine l_x rfl (x_as rfl) ?_
        refine l_nil ?_
        refine r_ret (rs := [.tmp 12]) [_] Tryz.func5 rfl ⟨rfl, trivial⟩ ?_
        exact ⟨rfl, hL9.trans S38.le⟩
      have hk1 : checkS b = 0 := Decidable.not_not.1 hg60
      have hk2 : checkS (moreS b m f fade) = 0 := Decidable.not_not.1 hc64
      have hoc := more_O (day := day) (r := true) hk1 hk2
      refine r_skip ?_
      refine r_seq ?_
      refine r_seq ?_
      refine r_region ?_
      refine l_x rfl (x_as rfl) ?_
      refine l_nil ?_
      refine r_block ?_
      refine r_loop (G := Nat) (fun i => 40 - i) (fun i => [(1, Value.int .i64 day), (6, .pointer (some ⟨b4, 0, none⟩)), (8, .pointer (some ⟨b8, 0, none⟩)), (13, .pointer (some ⟨b13, 0, none⟩)), (14, Value.int .i64 ((i : Int) + 1))]) (fun i w' => (i ≤ 40) ∧ Own nob w25 w' []) 0 ⟨rfl, rfl, rfl, rfl, rfl, trivial⟩ ⟨Nat.zero_le _, (S35.take 0)⟩ ?_
      rintro i ρ w1 ⟨hi, S1⟩ IH
      refine r_seq ?_
      refine r_seq ?_
      refine r_region ?_
      refine l_x rfl (x_mv rfl) ?_
      refine l_x rfl (x_leq rfl rfl) ?_
      refine l_nil ?_
      refine r_ifd rfl (fun hc67 => ?_) (fun hc67 => ?_)
      · skip
        refine r_skip ?_
        refine r_seq ?_
        refine r_block ?_
        refine r_seq ?_
        refine r_region ?_
        refine l_x rfl (x_load rfl (ld_blks (hX9.keep S1.le id) Tryz.isAgg25 Tryz.sizeOf25 rfl rfl)) ?_
        refine l_x rfl (x_mv rfl) ?_
        refine l_x rfl (x_load rfl (ld_blks (hZ9.keep S1.le id) Tryz.isAgg30 Tryz.sizeOf30 rfl rfl)) ?_
        refine l_x rfl (x_mv rfl) ?_
        refine l_call [] [] [_, _, _, _] rfl rfl Tryz.call23 rfl (c_Fits b vm vf day ((i : Int) + 1) s hs _ (hB.le (hL9.trans S1.le))) ?_
        rintro _ w40 ⟨rfl, hl42⟩
        have S41 := S1.step hl42
        refine l_x rfl (x_mv rfl) ?_
        refine l_x rfl (x_extract rfl rfl) ?_
        refine l_x rfl (x_extract rfl rfl) ?_
        refine l_x rfl (x_as rfl) ?_
        refine l_x rfl (x_as rfl) ?_
        refine l_nil ?_
        refine r_seq ?_
        refine r_region ?_
        refine l_x rfl (x_load rfl (ld_blks (hY9.keep S41.le id) Tryz.isAgg25 Tryz.sizeOf25 rfl rfl)) ?_
        refine l_x rfl (x_mv rfl) ?_
        refine l_x rfl (x_load rfl (ld_blks (hZ9.keep S41.le id) Tryz.isAgg30 Tryz.sizeOf30 rfl rfl)) ?_
        refine l_x rfl (x_mv rfl) ?_
        refine l_call [] [] [_, _, _, _] rfl rfl Tryz.call23 rfl (c_Fits (moreS b m f fade) vA vB day ((i : Int) + 1) s hs _ (hB2.le S41.le)) ?_
        rintro _ w43 ⟨rfl, hl45⟩
        have S44 := S41.step hl45
        refine l_x rfl (x_mv rfl) ?_
        refine l_x rfl (x_extract rfl rfl) ?_
        refine l_x rfl (x_extract rfl rfl) ?_
        refine l_x rfl (x_as rfl) ?_
        refine l_x rfl (x_as rfl) ?_
        refine l_nil ?_
        refine r_seq ?_
        refine r_region ?_
        refine l_x rfl (x_mv rfl) ?_
        refine l_x rfl (x_mv rfl) ?_
        refine l_x rfl (x_neq rfl rfl) ?_
        refine l_x rfl (x_mv rfl) ?_
        refine l_splitd (d := 89) rfl (fun hg89 => ?_) (fun hg89 => ?_)
        · exact absurd (more_E hk1 hk2).symm hg89
        refine l_x rfl (x_mv rfl) ?_
        refine l_x rfl (x_mv rfl) ?_
        refine l_split (d := 91) rfl (fun hg91 => ?_) (fun hg91 => ?_)
        · skip
          refine l_x rfl (x_mv rfl) ?_
          refine l_x rfl (x_not rfl) ?_
          refine l_x rfl (x_pick_t rfl rfl) ?_
          refine l_x rfl (x_pick_f rfl rfl) ?_
          refine l_nil ?_
          refine r_if rfl (fun hc95 => ?_) (fun hc95 => ?_)
          · exact absurd (more_V hk1 hk2 hg91) (by simpa using hc95)
          refine r_skip ?_
          refine r_inBlock ?_
          refine r_region ?_
          refine l_x rfl (x_mv rfl) ?_
          refine l_x rfl (x_add rfl rfl (by omega)) ?_
          refine l_x rfl (x_as rfl) ?_
          refine l_nil ?_
          exact IH (i + 1) _ _ (by omega) ⟨rfl, rfl, rfl, rfl, rfl, trivial⟩ ⟨by omega, (S44.take 0)⟩
        refine l_pass rfl ?_
        refine l_pass rfl ?_
        refine l_x rfl (x_pick_f rfl rfl) ?_
        refine l_x rfl (x_pick_f rfl rfl) ?_
        refine l_nil ?_
        refine r_false rfl ?_
        refine r_skip ?_
        refine r_inBlock ?_
        refine r_region ?_
        refine l_x rfl (x_mv rfl) ?_
        refine l_x rfl (x_add rfl rfl (by omega)) ?_
        refine l_x rfl (x_as rfl) ?_
        refine l_nil ?_
        exact IH (i + 1) _ _ (by omega) ⟨rfl, rfl, rfl, rfl, rfl, trivial⟩ ⟨by omega, (S44.take 0)⟩
      obtain rfl : i = 40 := by omega
      refine r_exit rfl ?_
      refine r_seq ?_
      refine r_region ?_
      refine l_x rfl (x_load rfl (ld_blks (hX9.keep S1.le id) Tryz.isAgg25 Tryz.sizeOf25 rfl rfl)) ?_
      refine l_x rfl (x_mv rfl) ?_
      refine l_call [] [] [_, _] rfl rfl Tryz.call25 rfl (c_Mistaken b vm vf day _ (hB.le (hL9.trans S1.le))) ?_
      rintro _ w46 (⟨x1, hx1, rfl, hqx1, hl9946⟩ | ⟨s1, rfl, ho1, hN9946, hl9946⟩)
      · skip
        have S47 := S1.step hl9946
        refine l_x rfl (x_mv rfl) ?_
        refine l_x rfl (x_extract rfl rfl) ?_
        refine l_x rfl (x_extract rfl rfl) ?_
        refine l_x rfl (x_as rfl) ?_
        refine l_x rfl (x_as rfl) ?_
        refine l_nil ?_
        refine r_seq ?_
        refine r_region ?_
        refine l_x rfl (x_load rfl (ld_blks (hY9.keep S47.le id) Tryz.isAgg25 Tryz.sizeOf25 rfl rfl)) ?_
        refine l_x rfl (x_mv rfl) ?_
        refine l_call [] [] [_, _] rfl rfl Tryz.call25 rfl (c_Mistaken (moreS b m f fade) vA vB day _ (hB2.le S47.le)) ?_
        rintro _ w48 (⟨x2, hx2, rfl, hqx2, hl10548⟩ | ⟨s2, rfl, ho2, hN10548, hl10548⟩)
        · skip
          have S49 := S47.step hl10548
          refine l_x rfl (x_mv rfl) ?_
          refine l_x rfl (x_extract rfl rfl) ?_
          refine l_x rfl (x_extract rfl rfl) ?_
          refine l_x rfl (x_as rfl) ?_
          refine l_x rfl (x_as rfl) ?_
          refine l_nil ?_
          refine r_seq ?_
          refine r_seq ?_
          refine r_region ?_
          refine l_x rfl (x_mv rfl) ?_
          refine l_x rfl (x_mv rfl) ?_
          refine l_x rfl (x_neq rfl rfl) ?_
          refine l_nil ?_
          refine r_ifd rfl (fun hc110 => ?_) (fun hc110 => ?_)
          · exact absurd ((hqx1.trans hoc.symm).trans hqx2.symm) hc110
          refine r_skip ?_
          refine r_seq ?_
          refine r_seq ?_
          refine r_region ?_
          refine l_x rfl (x_as rfl) ?_
          refine l_nil ?_
          refine r_block ?_
          refine r_loop (G := Nat) (fun i => ([] : List Pr).length - i) (fun i => [(19, .slice none 0 0), (21, .slice none 0 0), (23, Value.int .i64 i)]) (fun i w' => (i ≤ ([] : List Pr).length) ∧ Own nob w25 w' []) 0 ⟨rfl, rfl, rfl, trivial⟩ ⟨Nat.zero_le _, S49⟩ ?_
          rintro i ρ w1b ⟨hi, S1b⟩ IHb
          refine r_seq ?_
          refine r_seq ?_
          refine r_region ?_
          refine l_x rfl (x_mv rfl) ?_
          refine l_x rfl (x_mv rfl) ?_
          refine l_x rfl (x_len_slice rfl Tryz.runUnderlying43) ?_
          refine l_x rfl (x_lss rfl rfl) ?_
          refine l_nil ?_
          refine r_ifd rfl (fun hc114 => ?_) (fun hc114 => ?_)
          · (exfalso; simp at hc114; omega)
          refine r_exit rfl ?_
          refine r_seq ?_
          refine r_region ?_
          refine l_call [] [] [] rfl rfl Tryz.call20 rfl (c_marked _ (hG.le S1b.le)) ?_
          rintro _ w50 ⟨rfl, hl52⟩
          have S51 := S1b.step hl52
          refine l_x rfl (x_as rfl) ?_
          refine l_nil ?_
          refine r_ret (rs := [.tmp 12]) [_] Tryz.func5 rfl ⟨rfl, trivial⟩ ?_
          exact ⟨rfl, hL9.trans S51.le⟩
        exact absurd ((hqx1.trans hoc.symm).trans ho2) hx1
      have S53 := S1.add hl9946 hN9946
      refine l_x rfl (x_mv rfl) ?_
      refine l_x rfl (x_extract rfl rfl) ?_
      refine l_x rfl (x_extract rfl rfl) ?_
      refine l_x rfl (x_as rfl) ?_
      refine l_x rfl (x_as rfl) ?_
      refine l_nil ?_
      refine r_seq ?_
      refine r_region ?_
      refine l_x rfl (x_load rfl (ld_blks (hY9.keep S53.le id) Tryz.isAgg25 Tryz.sizeOf25 rfl rfl)) ?_
      refine l_x rfl (x_mv rfl) ?_
      refine l_call [] [] [_, _] rfl rfl Tryz.call25 rfl (c_Mistaken (moreS b m f fade) vA vB day _ (hB2.le S53.le)) ?_
      rintro _ w54 (⟨x2, hx2, rfl, hqx2, hl10554⟩ | ⟨s2, rfl, ho2, hN10554, hl10554⟩)
      · exact absurd ((hqx2.trans hoc).trans ho1) hx2
      have S55 := S53.add hl10554 hN10554
      refine l_x rfl (x_mv rfl) ?_
      refine l_x rfl (x_extract rfl rfl) ?_
      refine l_x rfl (x_extract rfl rfl) ?_
      refine l_x rfl (x_as rfl) ?_
      refine l_x rfl (x_as rfl) ?_
      refine l_nil ?_
      refine r_seq ?_
      refine r_seq ?_
      refine r_region ?_
      refine l_x rfl (x_mv rfl) ?_
      refine l_x rfl (x_mv rfl) ?_
      refine l_x rfl (x_neq rfl rfl) ?_
      refine l_nil ?_
      refine r_ifd rfl (fun hc110 => ?_) (fun hc110 => ?_)
      · exact absurd rfl hc110
      have hml9 := mis_len9 ho1
      refine r_skip ?_
      refine r_seq ?_
      refine r_seq ?_
      refine r_region ?_
      refine l_x rfl (x_as rfl) ?_
      refine l_nil ?_
      refine r_block ?_
      refine r_loop (G := Nat) (fun i => (mistaken b day).length - i) (fun i => [(19, s1), (21, s2), (23, Value.int .i64 i)]) (fun i w' => (i ≤ (mistaken b day).length) ∧ Own nob w25 w' [vec EPR s1 (mistaken b day), vec EPR s2 (mistaken (moreS b m f fade) day)]) 0 ⟨rfl, rfl, rfl, trivial⟩ ⟨Nat.zero_le _, S55⟩ ?_
      rintro i ρ w1b ⟨hi, S1b⟩ IHb
      refine r_seq ?_
      refine r_seq ?_
      refine r_region ?_
      refine l_x rfl (x_mv rfl) ?_
      refine l_x rfl (x_mv rfl) ?_
      refine l_x rfl (x_len (vec_rd (S1b.at 0 rfl)) rfl Tryz.runUnderlying43) ?_
      refine l_x rfl (x_lss rfl rfl) ?_
      refine l_nil ?_
      refine r_ifd rfl (fun hc114 => ?_) (fun hc114 => ?_)
      · skip
        obtain ⟨x, hx⟩ : ∃ x, (mistaken b day)[i]? = some x := ⟨_, List.getElem?_eq_getElem (by omega)⟩
        have hxm := List.mem_of_getElem? hx
        have hxk := mis_ok x hxm
        refine r_skip ?_
        refine r_seq ?_
        refine r_block ?_
        refine r_seq ?_
        refine r_region ?_
        refine l_x rfl (x_mv rfl) ?_
        refine l_x rfl (x_mv rfl) ?_
        refine l_x rfl (x_mv rfl) ?_
        refine l_index EPR rfl (vec_rd (S1b.at 0 rfl)) rfl rfl Tryz.runUnderlying43 Tryz.sizeOf48 (by omega) hx ?_
        intro b56 o57 hat58 row59
        refine l_x rfl (x_load rfl (ld_row Tryz.isAgg48 Tryz.sizeOf48 rfl row59)) ?_
        refine l_call [] [] [_, _] rfl rfl Tryz.call26 rfl (c_in9 (mistaken (moreS b m f fade) day) _ x mis_ok hxk (by have := mis_len9 ho2; omega) _ (vec_rd (S1b.at 1 rfl))) ?_
        rintro _ w60 ⟨rfl, hl62⟩
        have S61 := S1b.step hl62
        refine l_x rfl (x_not rfl) ?_
        refine l_nil ?_
        refine r_if rfl (fun hc123 => ?_) (fun hc123 => ?_)
        · exact absurd (more_M hk1 hk2 hxm) (by simpa using hc123)
        refine r_skip ?_
        refine r_inBlock ?_
        refine r_region ?_
        refine l_x rfl (x_mv rfl) ?_
        refine l_x rfl (x_add rfl rfl (by omega)) ?_
        refine l_x rfl (x_as rfl) ?_
        refine l_nil ?_
        exact IHb (i + 1) _ _ (by omega) ⟨rfl, rfl, rfl, trivial⟩ ⟨by omega, (S61.take 2)⟩
      refine r_exit rfl ?_
      refine r_seq ?_
      refine r_region ?_
      refine l_call [] [] [] rfl rfl Tryz.call20 rfl (c_marked _ (hG.le S1b.le)) ?_
      rintro _ w63 ⟨rfl, hl65⟩
      have S64 := S1b.step hl65
      refine l_x rfl (x_as rfl) ?_
      refine l_nil ?_
      refine r_ret (rs := [.tmp 12]) [_] Tryz.func5 rfl ⟨rfl, trivial⟩ ?_
      exact ⟨rfl, hL9.trans S64.le⟩
    refine r_if rfl (fun hc44 => ?_) (fun hc44 => ?_)
    · skip
      subst hc44
      refine r_region ?_
      refine l_x rfl (x_fieldAddr rfl Tryz.runUnderlying25 rfl Tryz.sizeOf23 (by decide)) ?_
      refine l_x rfl (x_load rfl (ld_blk (S24.blk 4 rfl) Tryz.isAgg23 rfl)) ?_
      refine l_x rfl (x_load rfl (ld_blks (S24.blk 3 rfl) Tryz.isAgg41 Tryz.sizeOf41 rfl rfl)) ?_
      refine l_buildSlice EFD [f] S24 rfl Tryz.runUnderlying23 Tryz.sizeOf41 Tryz.zeroValue41 rfl ⟨rfl, rfl, trivial⟩ (Nat.le_of_ble_eq_true rfl) ?_
      intro v69 w66 S67 hl68
      refine l_append EFD S67 6 rfl rfl rfl rfl (vec_rd (S67.at 7 rfl)) Tryz.underlying23 info41 rfl rfl rfl (by unfold maxLen; simp; omega) (by simp; show _ * 2 ≤ _; omega) ?_
      intro v73 w70 S71 hk72 hv74
      refine l_x rfl (x_fieldAddr rfl Tryz.runUnderlying25 rfl Tryz.sizeOf23 (by decide)) ?_
      refine l_storeq (c' := [_, _]) (v := v73) S71 4 rfl rfl rfl rfl (Rd.one (vec_rd (S71.at 6 rfl))) Tryz.sizeOf23 (by first | (simp; done) | exact Nat.le_of_ble_eq_true rfl) rfl ?_
      intro w75 S76 hk77
      refine l_nil ?_
      exact HK (v1, v73) _ _ ⟨rfl, rfl, rfl, rfl, trivial⟩ (S76.pick (L' := [_, _, _, _, _, _, _]) [0, 1, 2, 3, 4, 5, 6] (by decide) rfl)
    subst hc44
    refine r_region ?_
    refine l_x rfl (x_fieldAddr rfl Tryz.runUnderlying25 rfl Tryz.sizeOf22 (by decide)) ?_
    refine l_x rfl (x_load rfl (ld_blk (S24.blk 4 rfl) Tryz.isAgg22 rfl)) ?_
    refine l_x rfl (x_load rfl (ld_blks (S24.blk 2 rfl) Tryz.isAgg39 Tryz.sizeOf39 rfl rfl)) ?_
    refine l_buildSlice EMK [m] S24 rfl Tryz.runUnderlying22 Tryz.sizeOf39 Tryz.zeroValue39 rfl ⟨rfl, rfl, trivial⟩ (Nat.le_of_ble_eq_true rfl) ?_
    intro v81 w78 S79 hl80
    refine l_append EMK S79 5 rfl rfl rfl rfl (vec_rd (S79.at 7 rfl)) Tryz.underlying22 info39 rfl rfl rfl (by unfold maxLen; simp; omega) (by simp; show _ * 32 ≤ _; omega) ?_
    intro v85 w82 S83 hk84 hv86
    refine l_x rfl (x_fieldAddr rfl Tryz.runUnderlying25 rfl Tryz.sizeOf22 (by decide)) ?_
    refine l_storeq (c' := [_, _]) (v := v85) S83 4 rfl rfl rfl rfl (Rd.one (vec_rd (S83.at 5 rfl))) Tryz.sizeOf22 (by first | (simp; done) | exact Nat.le_of_ble_eq_true rfl) rfl ?_
    intro w87 S88 hk89
    refine l_nil ?_
    exact HK (v85, v2) _ _ ⟨rfl, rfl, rfl, rfl, trivial⟩ (S88.pick (L' := [_, _, _, _, _, _, _]) [0, 1, 2, 3, 4, 5, 6] (by decide) rfl)
  refine r_drawE 11 (yng w13) Tryz.mixed (by kernel_rfl) ?_
  intro w90 hl91
  have S92 := S14.step hl91
  have hy93 : Keep (yng w13) w13 w90 := .of_le hl91
  refine e_exact 1 _ (by kernel_rfl) rfl rfl (by kernel_rfl) rfl (ex_x rfl (fun w1 h1 => x_fieldAddr rfl Tryz.runUnderlying25 rfl Tryz.sizeOf22 (by decide))) ?_
  refine e_exact 2 _ (by kernel_rfl) rfl rfl (by kernel_rfl) rfl (ex_x rfl (fun w1 h1 => x_load rfl (ld_blk ((S14.yng (hy93.trans h1)).blk 0 rfl) Tryz.isAgg22 rfl))) ?_
  refine e_exact 5 _ (by kernel_rfl) rfl rfl (by kernel_rfl) rfl (ex_x rfl (fun w1 h1 => x_fieldAddr rfl Tryz.runUnderlying25 rfl Tryz.sizeOf23 (by decide))) ?_
  refine e_exact 6 _ (by kernel_rfl) rfl rfl (by kernel_rfl) rfl (ex_x rfl (fun w1 h1 => x_load rfl (ld_blk ((S14.yng (hy93.trans h1)).blk 0 rfl) Tryz.isAgg23 rfl))) ?_
  refine e_next [0, 4, 9] (by kernel_rfl) (by kernel_rfl) ⟨⟨_, _, rfl, rfl, ?_⟩, ⟨_, _, rfl, rfl, ?_⟩, ⟨_, _, rfl, rfl, ?_⟩, trivial⟩
  · skip
    refine s_buildSlice EMK [] (Own.start (X := nob) w90) rfl Tryz.runUnderlying22 Tryz.sizeOf39 Tryz.zeroValue39 rfl trivial (by decide) ?_
    intro v98 w94 S95 hl97
    have hn99 := S95.new 0 rfl
    have S96 := S92.add hl97 hn99
    refine ⟨.of_le hl97, ?_⟩
    have hyb100 : ∀ c, (vec EMK v98 []).fp c → yng w13 c := fun c hc => Nat.le_trans hy93.size (hn99.bd c hc).1
    have hy101 : Keep (yng w13) w13 w94 := hy93.trans (Keep.of_le hl97)
    refine e_next [3, 4, 9] (by kernel_rfl) (by kernel_rfl) ⟨⟨_, _, rfl, rfl, ?_⟩, ⟨_, _, rfl, rfl, ?_⟩, ⟨_, _, rfl, rfl, ?_⟩, trivial⟩
    · skip
      refine s_append EMK (S96.lend 4 rfl) 0 rfl rfl rfl rfl (hB.m.le S96.le) Tryz.underlying22 info39 rfl rfl rfl (by unfold maxLen; simp; omega) (by simp; show _ * 32 ≤ _; omega) ?_
      intro v106 w102 S103 hk105 hv107
      have S104 := S96.back 4 rfl S103
      have hyb108 : ∀ c, (vec EMK v106 []).fp c → yng w13 c := fun c hc => (S103.bd 0 _ rfl c hc).2.elim (fun h => Nat.le_trans hy101.size h) (hyb100 c)
      refine ⟨hk105.mono fun c _ hc => hyb100 c hc, ?_⟩
      have hy109 : Keep (yng w13) w13 w102 := hy101.trans (hk105.mono fun c _ hc => hyb100 c hc)
      refine e_next [4, 9] (by kernel_rfl) (by kernel_rfl) ⟨⟨_, _, rfl, rfl, ?_⟩, ⟨_, _, rfl, rfl, ?_⟩, trivial⟩
      · skip
        refine s_buildSlice EFD [] (Own.start (X := nob) w102) rfl Tryz.runUnderlying23 Tryz.sizeOf41 Tryz.zeroValue41 rfl trivial (by decide) ?_
        intro v114 w110 S111 hl113
        have hn115 := S111.new 0 rfl
        have S112 := S104.add hl113 hn115
        refine ⟨.of_le hl113, ?_⟩
        have hyb116 : ∀ c, (vec EFD v114 []).fp c → yng w13 c := fun c hc => Nat.le_trans hy109.size (hn115.bd c hc).1
        have hy117 : Keep (yng w13) w13 w110 := hy109.trans (Keep.of_le hl113)
        refine e_next [7, 9] (by kernel_rfl) (by kernel_rfl) ⟨⟨_, _, rfl, rfl, ?_⟩, ⟨_, _, rfl, rfl, ?_⟩, trivial⟩
        · skip
          refine s_append EFD (S112.lend 5 rfl) 0 rfl rfl rfl rfl (hB.f.le S112.le) Tryz.underlying23 info41 rfl rfl rfl (by unfold maxLen; simp; omega) (by simp; show _ * 2 ≤ _; omega) ?_
          intro v122 w118 S119 hk121 hv123
          have S120 := S112.back 5 rfl S119
          have hyb124 : ∀ c, (vec EFD v122 []).fp c → yng w13 c := fun c hc => (S119.bd 0 _ rfl c hc).2.elim (fun h => Nat.le_trans hy117.size h) (hyb116 c)
          refine ⟨hk121.mono fun c _ hc => hyb116 c hc, ?_⟩
          have hy125 : Keep (yng w13) w13 w118 := hy117.trans (hk121.mono fun c _ hc => hyb116 c hc)
          refine e_exact 8 _ (by kernel_rfl) rfl rfl (by kernel_rfl) rfl (ex_x rfl (fun w1 h1 => x_buildS (out := [_, _]) (ss := [1, 1]) Tryz.zeroValue25 rfl Tryz.runUnderlying25 ⟨Tryz.sizeOf22, Tryz.sizeOf23, trivial⟩ (fill_cons rfl (Rd.cells (vec_rd (S120.at 4 rfl))) rfl (Nat.le_of_ble_eq_true rfl) (fill_cons rfl (Rd.cells (vec_rd (S120.at 5 rfl))) rfl (Nat.le_of_ble_eq_true rfl) fill_nil)))) ?_
          refine e_next [9] (by kernel_rfl) (by kernel_rfl) ⟨⟨_, _, rfl, rfl, ?_⟩, trivial⟩
          refine s_allocY S120 rfl Tryz.zeroValue25 rfl ?_
          intro b129 w126 S127 hl128 hb130
          refine ⟨.of_le hl128, ?_⟩
          have hy131 : Keep (yng w13) w13 w126 := hy125.trans (Keep.of_le hl128)
          refine e_next [10] (by kernel_rfl) (by kernel_rfl) ⟨⟨_, _, rfl, rfl, ?_⟩, trivial⟩
          refine s_stores (vs := [_, _]) S127 6 rfl rfl rfl rfl (ones_cons (Rd.one (vec_rd (S127.at 4 rfl))) (ones_cons (Rd.one (vec_rd (S127.at 5 rfl))) ones_nil)) Tryz.sizeOf25 (by first | exact Nat.le_refl _ | simp) (splice_all rfl) ?_
          intro w132 S133 hk134
          refine ⟨(yng_blk hy125 hb130 hk134), ?_⟩
          have hy135 : Keep (yng w13) w13 w132 := hy131.trans ((yng_blk hy125 hb130 hk134))
          refine e_done (by kernel_rfl) ?_
          refine l_nil ?_
          exact HK (b129, v106, v122) _ _ ⟨rfl, rfl, rfl, rfl, rfl, rfl, rfl, trivial⟩ (S133.pick (L' := [_, _, _, _, _, _, _]) [0, 1, 2, 3, 6, 4, 5] (by decide) rfl)
        refine s_allocY S112 rfl Tryz.zeroValue25 rfl ?_
        intro b139 w136 S137 hl138 hb140
        refine ⟨.of_le hl138, ?_⟩
        have hy141 : Keep (yng w13) w13 w136 := hy117.trans (Keep.of_le hl138)
        refine e_next [7] (by kernel_rfl) (by kernel_rfl) ⟨⟨_, _, rfl, rfl, ?_⟩, trivial⟩
        refine s_append EFD (S137.lend 5 rfl) 0 rfl rfl rfl rfl (hB.f.le S137.le) Tryz.underlying23 info41 rfl rfl rfl (by unfold maxLen; simp; omega) (by simp; show _ * 2 ≤ _; omega) ?_
        intro v146 w142 S143 hk145 hv147
        have S144 := S137.back 5 rfl S143
        have hyb148 : ∀ c, (vec EFD v146 []).fp c → yng w13 c := fun c hc => (S143.bd 0 _ rfl c hc).2.elim (fun h => Nat.le_trans hy141.size h) (hyb116 c)
        refine ⟨hk145.mono fun c _ hc => hyb116 c hc, ?_⟩
        have hy149 : Keep (yng w13) w13 w142 := hy141.trans (hk145.mono fun c _ hc => hyb116 c hc)
        refine e_exact 8 _ (by kernel_rfl) rfl rfl (by kernel_rfl) rfl (ex_x rfl (fun w1 h1 => x_buildS (out := [_, _]) (ss := [1, 1]) Tryz.zeroValue25 rfl Tryz.runUnderlying25 ⟨Tryz.sizeOf22, Tryz.sizeOf23, trivial⟩ (fill_cons rfl (Rd.cells (vec_rd (S144.at 4 rfl))) rfl (Nat.le_of_ble_eq_true rfl) (fill_cons rfl (Rd.cells (vec_rd (S144.at 5 rfl))) rfl (Nat.le_of_ble_eq_true rfl) fill_nil)))) ?_
        refine e_next [10] (by kernel_rfl) (by kernel_rfl) ⟨⟨_, _, rfl, rfl, ?_⟩, trivial⟩
        refine s_stores (vs := [_, _]) S144 6 rfl rfl rfl rfl (ones_cons (Rd.one (vec_rd (S144.at 4 rfl))) (ones_cons (Rd.one (vec_rd (S144.at 5 rfl))) ones_nil)) Tryz.sizeOf25 (by first | exact Nat.le_refl _ | simp) (splice_all rfl) ?_
        intro w150 S151 hk152
        refine ⟨(yng_blk hy117 hb140 hk152), ?_⟩
        have hy153 : Keep (yng w13) w13 w150 := hy149.trans ((yng_blk hy117 hb140 hk152))
        refine e_done (by kernel_rfl) ?_
        refine l_nil ?_
        exact HK (b139, v106, v146) _ _ ⟨rfl, rfl, rfl, rfl, rfl, rfl, rfl, trivial⟩ (S151.pick (L' := [_, _, _, _, _, _, _]) [0, 1, 2, 3, 6, 4, 5] (by decide) rfl)
      refine s_allocY S104 rfl Tryz.zeroValue25 rfl ?_
      intro b157 w154 S155 hl156 hb158
      refine ⟨.of_le hl156, ?_⟩
      have hy159 : Keep (yng w13) w13 w154 := hy109.trans (Keep.of_le hl156)
      refine e_next [4] (by kernel_rfl) (by kernel_rfl) ⟨⟨_, _, rfl, rfl, ?_⟩, trivial⟩
      refine s_buildSlice EFD [] (Own.start (X := nob) w154) rfl Tryz.runUnderlying23 Tryz.sizeOf41 Tryz.zeroValue41 rfl trivial (by decide) ?_
      intro v164 w160 S161 hl163
      have hn165 := S161.new 0 rfl
      have S162 := S155.add hl163 hn165
      refine ⟨.of_le hl163, ?_⟩
      have hyb166 : ∀ c, (vec EFD v164 []).fp c → yng w13 c := fun c hc => Nat.le_trans hy159.size (hn165.bd c hc).1
      have hy167 : Keep (yng w13) w13 w160 := hy159.trans (Keep.of_le hl163)
      refine e_next [7] (by kernel_rfl) (by kernel_rfl) ⟨⟨_, _, rfl, rfl, ?_⟩, trivial⟩
      refine s_append EFD (S162.lend 6 rfl) 0 rfl rfl rfl rfl (hB.f.le S162.le) Tryz.underlying23 info41 rfl rfl rfl (by unfold maxLen; simp; omega) (by simp; show _ * 2 ≤ _; omega) ?_
      intro v172 w168 S169 hk171 hv173
      have S170 := S162.back 6 rfl S169
      have hyb174 : ∀ c, (vec EFD v172 []).fp c → yng w13 c := fun c hc => (S169.bd 0 _ rfl c hc).2.elim (fun h => Nat.le_trans hy167.size h) (hyb166 c)
      refine ⟨hk171.mono fun c _ hc => hyb166 c hc, ?_⟩
      have hy175 : Keep (yng w13) w13 w168 := hy167.trans (hk171.mono fun c _ hc => hyb166 c hc)
      refine e_exact 8 _ (by kernel_rfl) rfl rfl (by kernel_rfl) rfl (ex_x rfl (fun w1 h1 => x_buildS (out := [_, _]) (ss := [1, 1]) Tryz.zeroValue25 rfl Tryz.runUnderlying25 ⟨Tryz.sizeOf22, Tryz.sizeOf23, trivial⟩ (fill_cons rfl (Rd.cells (vec_rd (S170.at 4 rfl))) rfl (Nat.le_of_ble_eq_true rfl) (fill_cons rfl (Rd.cells (vec_rd (S170.at 6 rfl))) rfl (Nat.le_of_ble_eq_true rfl) fill_nil)))) ?_
      refine e_next [10] (by kernel_rfl) (by kernel_rfl) ⟨⟨_, _, rfl, rfl, ?_⟩, trivial⟩
      refine s_stores (vs := [_, _]) S170 5 rfl rfl rfl rfl (ones_cons (Rd.one (vec_rd (S170.at 4 rfl))) (ones_cons (Rd.one (vec_rd (S170.at 6 rfl))) ones_nil)) Tryz.sizeOf25 (by first | exact Nat.le_refl _ | simp) (splice_all rfl) ?_
      intro w176 S177 hk178
      refine ⟨(yng_blk hy109 hb158 hk178), ?_⟩
      have hy179 : Keep (yng w13) w13 w176 := hy175.trans ((yng_blk hy109 hb158 hk178))
      refine e_done (by kernel_rfl) ?_
      refine l_nil ?_
      exact HK (b157, v106, v172) _ _ ⟨rfl, rfl, rfl, rfl, rfl, rfl, rfl, trivial⟩ (S177.pick (L' := [_, _, _, _, _, _, _]) [0, 1, 2, 3, 5, 4, 6] (by decide) rfl)
    · skip
      refine s_buildSlice EFD [] (Own.start (X := nob) w94) rfl Tryz.runUnderlying23 Tryz.sizeOf41 Tryz.zeroValue41 rfl trivial (by decide) ?_
      intro v184 w180 S181 hl183
      have hn185 := S181.new 0 rfl
      have S182 := S96.add hl183 hn185
      refine ⟨.of_le hl183, ?_⟩
      have hyb186 : ∀ c, (vec EFD v184 []).fp c → yng w13 c := fun c hc => Nat.le_trans hy101.size (hn185.bd c hc).1
      have hy187 : Keep (yng w13) w13 w180 := hy101.trans (Keep.of_le hl183)
      refine e_next [3, 9] (by kernel_rfl) (by kernel_rfl) ⟨⟨_, _, rfl, rfl, ?_⟩, ⟨_, _, rfl, rfl, ?_⟩, trivial⟩
      · skip
        refine s_append EMK (S182.lend 4 rfl) 0 rfl rfl rfl rfl (hB.m.le S182.le) Tryz.underlying22 info39 rfl rfl rfl (by unfold maxLen; simp; omega) (by simp; show _ * 32 ≤ _; omega) ?_
        intro v192 w188 S189 hk191 hv193
        have S190 := S182.back 4 rfl S189
        have hyb194 : ∀ c, (vec EMK v192 []).fp c → yng w13 c := fun c hc => (S189.bd 0 _ rfl c hc).2.elim (fun h => Nat.le_trans hy187.size h) (hyb100 c)
        refine ⟨hk191.mono fun c _ hc => hyb100 c hc, ?_⟩
        have hy195 : Keep (yng w13) w13 w188 := hy187.trans (hk191.mono fun c _ hc => hyb100 c hc)
        refine e_next [7, 9] (by kernel_rfl) (by kernel_rfl) ⟨⟨_, _, rfl, rfl, ?_⟩, ⟨_, _, rfl, rfl, ?_⟩, trivial⟩
        · skip
          refine s_append EFD (S190.lend 5 rfl) 0 rfl rfl rfl rfl (hB.f.le S190.le) Tryz.underlying23 info41 rfl rfl rfl (by unfold maxLen; simp; omega) (by simp; show _ * 2 ≤ _; omega) ?_
          intro v200 w196 S197 hk199 hv201
          have S198 := S190.back 5 rfl S197
          have hyb202 : ∀ c, (vec EFD v200 []).fp c → yng w13 c := fun c hc => (S197.bd 0 _ rfl c hc).2.elim (fun h => Nat.le_trans hy195.size h) (hyb186 c)
          refine ⟨hk199.mono fun c _ hc => hyb186 c hc, ?_⟩
          have hy203 : Keep (yng w13) w13 w196 := hy195.trans (hk199.mono fun c _ hc => hyb186 c hc)
          refine e_exact 8 _ (by kernel_rfl) rfl rfl (by kernel_rfl) rfl (ex_x rfl (fun w1 h1 => x_buildS (out := [_, _]) (ss := [1, 1]) Tryz.zeroValue25 rfl Tryz.runUnderlying25 ⟨Tryz.sizeOf22, Tryz.sizeOf23, trivial⟩ (fill_cons rfl (Rd.cells (vec_rd (S198.at 4 rfl))) rfl (Nat.le_of_ble_eq_true rfl) (fill_cons rfl (Rd.cells (vec_rd (S198.at 5 rfl))) rfl (Nat.le_of_ble_eq_true rfl) fill_nil)))) ?_
          refine e_next [9] (by kernel_rfl) (by kernel_rfl) ⟨⟨_, _, rfl, rfl, ?_⟩, trivial⟩
          refine s_allocY S198 rfl Tryz.zeroValue25 rfl ?_
          intro b207 w204 S205 hl206 hb208
          refine ⟨.of_le hl206, ?_⟩
          have hy209 : Keep (yng w13) w13 w204 := hy203.trans (Keep.of_le hl206)
          refine e_next [10] (by kernel_rfl) (by kernel_rfl) ⟨⟨_, _, rfl, rfl, ?_⟩, trivial⟩
          refine s_stores (vs := [_, _]) S205 6 rfl rfl rfl rfl (ones_cons (Rd.one (vec_rd (S205.at 4 rfl))) (ones_cons (Rd.one (vec_rd (S205.at 5 rfl))) ones_nil)) Tryz.sizeOf25 (by first | exact Nat.le_refl _ | simp) (splice_all rfl) ?_
          intro w210 S211 hk212
          refine ⟨(yng_blk hy203 hb208 hk212), ?_⟩
          have hy213 : Keep (yng w13) w13 w210 := hy209.trans ((yng_blk hy203 hb208 hk212))
          refine e_done (by kernel_rfl) ?_
          refine l_nil ?_
          exact HK (b207, v192, v200) _ _ ⟨rfl, rfl, rfl, rfl, rfl, rfl, rfl, trivial⟩ (S211.pick (L' := [_, _, _, _, _, _, _]) [0, 1, 2, 3, 6, 4, 5] (by decide) rfl)
        refine s_allocY S190 rfl Tryz.zeroValue25 rfl ?_
        intro b217 w214 S215 hl216 hb218
        refine ⟨.of_le hl216, ?_⟩
        have hy219 : Keep (yng w13) w13 w214 := hy195.trans (Keep.of_le hl216)
        refine e_next [7] (by kernel_rfl) (by kernel_rfl) ⟨⟨_, _, rfl, rfl, ?_⟩, trivial⟩
        refine s_append EFD (S215.lend 5 rfl) 0 rfl rfl rfl rfl (hB.f.le S215.le) Tryz.underlying23 info41 rfl rfl rfl (by unfold maxLen; simp; omega) (by simp; show _ * 2 ≤ _; omega) ?_
        intro v224 w220 S221 hk223 hv225
        have S222 := S215.back 5 rfl S221
        have hyb226 : ∀ c, (vec EFD v224 []).fp c → yng w13 c := fun c hc => (S221.bd 0 _ rfl c hc).2.elim (fun h => Nat.le_trans hy219.size h) (hyb186 c)
        refine ⟨hk223.mono fun c _ hc => hyb186 c hc, ?_⟩
        have hy227 : Keep (yng w13) w13 w220 := hy219.trans (hk223.mono fun c _ hc => hyb186 c hc)
        refine e_exact 8 _ (by kernel_rfl) rfl rfl (by kernel_rfl) rfl (ex_x rfl (fun w1 h1 => x_buildS (out := [_, _]) (ss := [1, 1]) Tryz.zeroValue25 rfl Tryz.runUnderlying25 ⟨Tryz.sizeOf22, Tryz.sizeOf23, trivial⟩ (fill_cons rfl (Rd.cells (vec_rd (S222.at 4 rfl))) rfl (Nat.le_of_ble_eq_true rfl) (fill_cons rfl (Rd.cells (vec_rd (S222.at 5 rfl))) rfl (Nat.le_of_ble_eq_true rfl) fill_nil)))) ?_
        refine e_next [10] (by kernel_rfl) (by kernel_rfl) ⟨⟨_, _, rfl, rfl, ?_⟩, trivial⟩
        refine s_stores (vs := [_, _]) S222 6 rfl rfl rfl rfl (ones_cons (Rd.one (vec_rd (S222.at 4 rfl))) (ones_cons (Rd.one (vec_rd (S222.at 5 rfl))) ones_nil)) Tryz.sizeOf25 (by first | exact Nat.le_refl _ | simp) (splice_all rfl) ?_
        intro w228 S229 hk230
        refine ⟨(yng_blk hy195 hb218 hk230), ?_⟩
        have hy231 : Keep (yng w13) w13 w228 := hy227.trans ((yng_blk hy195 hb218 hk230))
        refine e_done (by kernel_rfl) ?_
        refine l_nil ?_
        exact HK (b217, v192, v224) _ _ ⟨rfl, rfl, rfl, rfl, rfl, rfl, rfl, trivial⟩ (S229.pick (L' := [_, _, _, _, _, _, _]) [0, 1, 2, 3, 6, 4, 5] (by decide) rfl)
      refine s_allocY S182 rfl Tryz.zeroValue25 rfl ?_
      intro b235 w232 S233 hl234 hb236
      refine ⟨.of_le hl234, ?_⟩
      have hy237 : Keep (yng w13) w13 w232 := hy187.trans (Keep.of_le hl234)
      refine e_next [3] (by kernel_rfl) (by kernel_rfl) ⟨⟨_, _, rfl, rfl, ?_⟩, trivial⟩
      refine s_append EMK (S233.lend 4 rfl) 0 rfl rfl rfl rfl (hB.m.le S233.le) Tryz.underlying22 info39 rfl rfl rfl (by unfold maxLen; simp; omega) (by simp; show _ * 32 ≤ _; omega) ?_
      intro v242 w238 S239 hk241 hv243
      have S240 := S233.back 4 rfl S239
      have hyb244 : ∀ c, (vec EMK v242 []).fp c → yng w13 c := fun c hc => (S239.bd 0 _ rfl c hc).2.elim (fun h => Nat.le_trans hy237.size h) (hyb100 c)
      refine ⟨hk241.mono fun c _ hc => hyb100 c hc, ?_⟩
      have hy245 : Keep (yng w13) w13 w238 := hy237.trans (hk241.mono fun c _ hc => hyb100 c hc)
      refine e_next [7] (by kernel_rfl) (by kernel_rfl) ⟨⟨_, _, rfl, rfl, ?_⟩, trivial⟩
      refine s_append EFD (S240.lend 5 rfl) 0 rfl rfl rfl rfl (hB.f.le S240.le) Tryz.underlying23 info41 rfl rfl rfl (by unfold maxLen; simp; omega) (by simp; show _ * 2 ≤ _; omega) ?_
      intro v250 w246 S247 hk249 hv251
      have S248 := S240.back 5 rfl S247
      have hyb252 : ∀ c, (vec EFD v250 []).fp c → yng w13 c := fun c hc => (S247.bd 0 _ rfl c hc).2.elim (fun h => Nat.le_trans hy245.size h) (hyb186 c)
      refine ⟨hk249.mono fun c _ hc => hyb186 c hc, ?_⟩
      have hy253 : Keep (yng w13) w13 w246 := hy245.trans (hk249.mono fun c _ hc => hyb186 c hc)
      refine e_exact 8 _ (by kernel_rfl) rfl rfl (by kernel_rfl) rfl (ex_x rfl (fun w1 h1 => x_buildS (out := [_, _]) (ss := [1, 1]) Tryz.zeroValue25 rfl Tryz.runUnderlying25 ⟨Tryz.sizeOf22, Tryz.sizeOf23, trivial⟩ (fill_cons rfl (Rd.cells (vec_rd (S248.at 4 rfl))) rfl (Nat.le_of_ble_eq_true rfl) (fill_cons rfl (Rd.cells (vec_rd (S248.at 5 rfl))) rfl (Nat.le_of_ble_eq_true rfl) fill_nil)))) ?_
      refine e_next [10] (by kernel_rfl) (by kernel_rfl) ⟨⟨_, _, rfl, rfl, ?_⟩, trivial⟩
      refine s_stores (vs := [_, _]) S248 6 rfl rfl rfl rfl (ones_cons (Rd.one (vec_rd (S248.at 4 rfl))) (ones_cons (Rd.one (vec_rd (S248.at 5 rfl))) ones_nil)) Tryz.sizeOf25 (by first | exact Nat.le_refl _ | simp) (splice_all rfl) ?_
      intro w254 S255 hk256
      refine ⟨(yng_blk hy187 hb236 hk256), ?_⟩
      have hy257 : Keep (yng w13) w13 w254 := hy253.trans ((yng_blk hy187 hb236 hk256))
      refine e_done (by kernel_rfl) ?_
      refine l_nil ?_
      exact HK (b235, v242, v250) _ _ ⟨rfl, rfl, rfl, rfl, rfl, rfl, rfl, trivial⟩ (S255.pick (L' := [_, _, _, _, _, _, _]) [0, 1, 2, 3, 6, 4, 5] (by decide) rfl)
    refine s_allocY S96 rfl Tryz.zeroValue25 rfl ?_
    intro b261 w258 S259 hl260 hb262
    refine ⟨.of_le hl260, ?_⟩
    have hy263 : Keep (yng w13) w13 w258 := hy101.trans (Keep.of_le hl260)
    refine e_next [3, 4] (by kernel_rfl) (by kernel_rfl) ⟨⟨_, _, rfl, rfl, ?_⟩, ⟨_, _, rfl, rfl, ?_⟩, trivial⟩
    · skip
      refine s_append EMK (S259.lend 4 rfl) 0 rfl rfl rfl rfl (hB.m.le S259.le) Tryz.underlying22 info39 rfl rfl rfl (by unfold maxLen; simp; omega) (by simp; show _ * 32 ≤ _; omega) ?_
      intro v268 w264 S265 hk267 hv269
      have S266 := S259.back 4 rfl S265
      have hyb270 : ∀ c, (vec EMK v268 []).fp c → yng w13 c := fun c hc => (S265.bd 0 _ rfl c hc).2.elim (fun h => Nat.le_trans hy263.size h) (hyb100 c)
      refine ⟨hk267.mono fun c _ hc => hyb100 c hc, ?_⟩
      have hy271 : Keep (yng w13) w13 w264 := hy263.trans (hk267.mono fun c _ hc => hyb100 c hc)
      refine e_next [4] (by kernel_rfl) (by kernel_rfl) ⟨⟨_, _, rfl, rfl, ?_⟩, trivial⟩
      refine s_buildSlice EFD [] (Own.start (X := nob) w264) rfl Tryz.runUnderlying23 Tryz.sizeOf41 Tryz.zeroValue41 rfl trivial (by decide) ?_
      intro v276 w272 S273 hl275
      have hn277 := S273.new 0 rfl
      have S274 := S266.add hl275 hn277
      refine ⟨.of_le hl275, ?_⟩
      have hyb278 : ∀ c, (vec EFD v276 []).fp c → yng w13 c := fun c hc => Nat.le_trans hy271.size (hn277.bd c hc).1
      have hy279 : Keep (yng w13) w13 w272 := hy271.trans (Keep.of_le hl275)
      refine e_next [7] (by kernel_rfl) (by kernel_rfl) ⟨⟨_, _, rfl, rfl, ?_⟩, trivial⟩
      refine s_append EFD (S274.lend 6 rfl) 0 rfl rfl rfl rfl (hB.f.le S274.le) Tryz.underlying23 info41 rfl rfl rfl (by unfold maxLen; simp; omega) (by simp; show _ * 2 ≤ _; omega) ?_
      intro v284 w280 S281 hk283 hv285
      have S282 := S274.back 6 rfl S281
      have hyb286 : ∀ c, (vec EFD v284 []).fp c → yng w13 c := fun c hc => (S281.bd 0 _ rfl c hc).2.elim (fun h => Nat.le_trans hy279.size h) (hyb278 c)
      refine ⟨hk283.mono fun c _ hc => hyb278 c hc, ?_⟩
      have hy287 : Keep (yng w13) w13 w280 := hy279.trans (hk283.mono fun c _ hc => hyb278 c hc)
      refine e_exact 8 _ (by kernel_rfl) rfl rfl (by kernel_rfl) rfl (ex_x rfl (fun w1 h1 => x_buildS (out := [_, _]) (ss := [1, 1]) Tryz.zeroValue25 rfl Tryz.runUnderlying25 ⟨Tryz.sizeOf22, Tryz.sizeOf23, trivial⟩ (fill_cons rfl (Rd.cells (vec_rd (S282.at 4 rfl))) rfl (Nat.le_of_ble_eq_true rfl) (fill_cons rfl (Rd.cells (vec_rd (S282.at 6 rfl))) rfl (Nat.le_of_ble_eq_true rfl) fill_nil)))) ?_
      refine e_next [10] (by kernel_rfl) (by kernel_rfl) ⟨⟨_, _, rfl, rfl, ?_⟩, trivial⟩
      refine s_stores (vs := [_, _]) S282 5 rfl rfl rfl rfl (ones_cons (Rd.one (vec_rd (S282.at 4 rfl))) (ones_cons (Rd.one (vec_rd (S282.at 6 rfl))) ones_nil)) Tryz.sizeOf25 (by first | exact Nat.le_refl _ | simp) (splice_all rfl) ?_
      intro w288 S289 hk290
      refine ⟨(yng_blk hy101 hb262 hk290), ?_⟩
      have hy291 : Keep (yng w13) w13 w288 := hy287.trans ((yng_blk hy101 hb262 hk290))
      refine e_done (by kernel_rfl) ?_
      refine l_nil ?_
      exact HK (b261, v268, v284) _ _ ⟨rfl, rfl, rfl, rfl, rfl, rfl, rfl, trivial⟩ (S289.pick (L' := [_, _, _, _, _, _, _]) [0, 1, 2, 3, 5, 4, 6] (by decide) rfl)
    refine s_buildSlice EFD [] (Own.start (X := nob) w258) rfl Tryz.runUnderlying23 Tryz.sizeOf41 Tryz.zeroValue41 rfl trivial (by decide) ?_
    intro v296 w292 S293 hl295
    have hn297 := S293.new 0 rfl
    have S294 := S259.add hl295 hn297
    refine ⟨.of_le hl295, ?_⟩
    have hyb298 : ∀ c, (vec EFD v296 []).fp c → yng w13 c := fun c hc => Nat.le_trans hy263.size (hn297.bd c hc).1
    have hy299 : Keep (yng w13) w13 w292 := hy263.trans (Keep.of_le hl295)
    refine e_next [3] (by kernel_rfl) (by kernel_rfl) ⟨⟨_, _, rfl, rfl, ?_⟩, trivial⟩
    refine s_append EMK (S294.lend 4 rfl) 0 rfl rfl rfl rfl (hB.m.le S294.le) Tryz.underlying22 info39 rfl rfl rfl (by unfold maxLen; simp; omega) (by simp; show _ * 32 ≤ _; omega) ?_
    intro v304 w300 S301 hk303 hv305
    have S302 := S294.back 4 rfl S301
    have hyb306 : ∀ c, (vec EMK v304 []).fp c → yng w13 c := fun c hc => (S301.bd 0 _ rfl c hc).2.elim (fun h => Nat.le_trans hy299.size h) (hyb100 c)
    refine ⟨hk303.mono fun c _ hc => hyb100 c hc, ?_⟩
    have hy307 : Keep (yng w13) w13 w300 := hy299.trans (hk303.mono fun c _ hc => hyb100 c hc)
    refine e_next [7] (by kernel_rfl) (by kernel_rfl) ⟨⟨_, _, rfl, rfl, ?_⟩, trivial⟩
    refine s_append EFD (S302.lend 6 rfl) 0 rfl rfl rfl rfl (hB.f.le S302.le) Tryz.underlying23 info41 rfl rfl rfl (by unfold maxLen; simp; omega) (by simp; show _ * 2 ≤ _; omega) ?_
    intro v312 w308 S309 hk311 hv313
    have S310 := S302.back 6 rfl S309
    have hyb314 : ∀ c, (vec EFD v312 []).fp c → yng w13 c := fun c hc => (S309.bd 0 _ rfl c hc).2.elim (fun h => Nat.le_trans hy307.size h) (hyb298 c)
    refine ⟨hk311.mono fun c _ hc => hyb298 c hc, ?_⟩
    have hy315 : Keep (yng w13) w13 w308 := hy307.trans (hk311.mono fun c _ hc => hyb298 c hc)
    refine e_exact 8 _ (by kernel_rfl) rfl rfl (by kernel_rfl) rfl (ex_x rfl (fun w1 h1 => x_buildS (out := [_, _]) (ss := [1, 1]) Tryz.zeroValue25 rfl Tryz.runUnderlying25 ⟨Tryz.sizeOf22, Tryz.sizeOf23, trivial⟩ (fill_cons rfl (Rd.cells (vec_rd (S310.at 4 rfl))) rfl (Nat.le_of_ble_eq_true rfl) (fill_cons rfl (Rd.cells (vec_rd (S310.at 6 rfl))) rfl (Nat.le_of_ble_eq_true rfl) fill_nil)))) ?_
    refine e_next [10] (by kernel_rfl) (by kernel_rfl) ⟨⟨_, _, rfl, rfl, ?_⟩, trivial⟩
    refine s_stores (vs := [_, _]) S310 5 rfl rfl rfl rfl (ones_cons (Rd.one (vec_rd (S310.at 4 rfl))) (ones_cons (Rd.one (vec_rd (S310.at 6 rfl))) ones_nil)) Tryz.sizeOf25 (by first | exact Nat.le_refl _ | simp) (splice_all rfl) ?_
    intro w316 S317 hk318
    refine ⟨(yng_blk hy101 hb262 hk318), ?_⟩
    have hy319 : Keep (yng w13) w13 w316 := hy315.trans ((yng_blk hy101 hb262 hk318))
    refine e_done (by kernel_rfl) ?_
    refine l_nil ?_
    exact HK (b261, v304, v312) _ _ ⟨rfl, rfl, rfl, rfl, rfl, rfl, rfl, trivial⟩ (S317.pick (L' := [_, _, _, _, _, _, _]) [0, 1, 2, 3, 5, 4, 6] (by decide) rfl)
  · skip
    refine s_buildSlice EFD [] (Own.start (X := nob) w90) rfl Tryz.runUnderlying23 Tryz.sizeOf41 Tryz.zeroValue41 rfl trivial (by decide) ?_
    intro v324 w320 S321 hl323
    have hn325 := S321.new 0 rfl
    have S322 := S92.add hl323 hn325
    refine ⟨.of_le hl323, ?_⟩
    have hyb326 : ∀ c, (vec EFD v324 []).fp c → yng w13 c := fun c hc => Nat.le_trans hy93.size (hn325.bd c hc).1
    have hy327 : Keep (yng w13) w13 w320 := hy93.trans (Keep.of_le hl323)
    refine e_next [0, 9] (by kernel_rfl) (by kernel_rfl) ⟨⟨_, _, rfl, rfl, ?_⟩, ⟨_, _, rfl, rfl, ?_⟩, trivial⟩
    · skip
      refine s_buildSlice EMK [] (Own.start (X := nob) w320) rfl Tryz.runUnderlying22 Tryz.sizeOf39 Tryz.zeroValue39 rfl trivial (by decide) ?_
      intro v332 w328 S329 hl331
      have hn333 := S329.new 0 rfl
      have S330 := S322.add hl331 hn333
      refine ⟨.of_le hl331, ?_⟩
      have hyb334 : ∀ c, (vec EMK v332 []).fp c → yng w13 c := fun c hc => Nat.le_trans hy327.size (hn333.bd c hc).1
      have hy335 : Keep (yng w13) w13 w328 := hy327.trans (Keep.of_le hl331)
      refine e_next [3, 9] (by kernel_rfl) (by kernel_rfl) ⟨⟨_, _, rfl, rfl, ?_⟩, ⟨_, _, rfl, rfl, ?_⟩, trivial⟩
      · skip
        refine s_append EMK (S330.lend 5 rfl) 0 rfl rfl rfl rfl (hB.m.le S330.le) Tryz.underlying22 info39 rfl rfl rfl (by unfold maxLen; simp; omega) (by simp; show _ * 32 ≤ _; omega) ?_
        intro v340 w336 S337 hk339 hv341
        have S338 := S330.back 5 rfl S337
        have hyb342 : ∀ c, (vec EMK v340 []).fp c → yng w13 c := fun c hc => (S337.bd 0 _ rfl c hc).2.elim (fun h => Nat.le_trans hy335.size h) (hyb334 c)
        refine ⟨hk339.mono fun c _ hc => hyb334 c hc, ?_⟩
        have hy343 : Keep (yng w13) w13 w336 := hy335.trans (hk339.mono fun c _ hc => hyb334 c hc)
        refine e_next [7, 9] (by kernel_rfl) (by kernel_rfl) ⟨⟨_, _, rfl, rfl, ?_⟩, ⟨_, _, rfl, rfl, ?_⟩, trivial⟩
        · skip
          refine s_append EFD (S338.lend 4 rfl) 0 rfl rfl rfl rfl (hB.f.le S338.le) Tryz.underlying23 info41 rfl rfl rfl (by unfold maxLen; simp; omega) (by simp; show _ * 2 ≤ _; omega) ?_
          intro v348 w344 S345 hk347 hv349
          have S346 := S338.back 4 rfl S345
          have hyb350 : ∀ c, (vec EFD v348 []).fp c → yng w13 c := fun c hc => (S345.bd 0 _ rfl c hc).2.elim (fun h => Nat.le_trans hy343.size h) (hyb326 c)
          refine ⟨hk347.mono fun c _ hc => hyb326 c hc, ?_⟩
          have hy351 : Keep (yng w13) w13 w344 := hy343.trans (hk347.mono fun c _ hc => hyb326 c hc)
          refine e_exact 8 _ (by kernel_rfl) rfl rfl (by kernel_rfl) rfl (ex_x rfl (fun w1 h1 => x_buildS (out := [_, _]) (ss := [1, 1]) Tryz.zeroValue25 rfl Tryz.runUnderlying25 ⟨Tryz.sizeOf22, Tryz.sizeOf23, trivial⟩ (fill_cons rfl (Rd.cells (vec_rd (S346.at 5 rfl))) rfl (Nat.le_of_ble_eq_true rfl) (fill_cons rfl (Rd.cells (vec_rd (S346.at 4 rfl))) rfl (Nat.le_of_ble_eq_true rfl) fill_nil)))) ?_
          refine e_next [9] (by kernel_rfl) (by kernel_rfl) ⟨⟨_, _, rfl, rfl, ?_⟩, trivial⟩
          refine s_allocY S346 rfl Tryz.zeroValue25 rfl ?_
          intro b355 w352 S353 hl354 hb356
          refine ⟨.of_le hl354, ?_⟩
          have hy357 : Keep (yng w13) w13 w352 := hy351.trans (Keep.of_le hl354)
          refine e_next [10] (by kernel_rfl) (by kernel_rfl) ⟨⟨_, _, rfl, rfl, ?_⟩, trivial⟩
          refine s_stores (vs := [_, _]) S353 6 rfl rfl rfl rfl (ones_cons (Rd.one (vec_rd (S353.at 5 rfl))) (ones_cons (Rd.one (vec_rd (S353.at 4 rfl))) ones_nil)) Tryz.sizeOf25 (by first | exact Nat.le_refl _ | simp) (splice_all rfl) ?_
          intro w358 S359 hk360
          refine ⟨(yng_blk hy351 hb356 hk360), ?_⟩
          have hy361 : Keep (yng w13) w13 w358 := hy357.trans ((yng_blk hy351 hb356 hk360))
          refine e_done (by kernel_rfl) ?_
          refine l_nil ?_
          exact HK (b355, v340, v348) _ _ ⟨rfl, rfl, rfl, rfl, rfl, rfl, rfl, trivial⟩ (S359.pick (L' := [_, _, _, _, _, _, _]) [0, 1, 2, 3, 6, 5, 4] (by decide) rfl)
        refine s_allocY S338 rfl Tryz.zeroValue25 rfl ?_
        intro b365 w362 S363 hl364 hb366
        refine ⟨.of_le hl364, ?_⟩
        have hy367 : Keep (yng w13) w13 w362 := hy343.trans (Keep.of_le hl364)
        refine e_next [7] (by kernel_rfl) (by kernel_rfl) ⟨⟨_, _, rfl, rfl, ?_⟩, trivial⟩
        refine s_append EFD (S363.lend 4 rfl) 0 rfl rfl rfl rfl (hB.f.le S363.le) Tryz.underlying23 info41 rfl rfl rfl (by unfold maxLen; simp; omega) (by simp; show _ * 2 ≤ _; omega) ?_
        intro v372 w368 S369 hk371 hv373
        have S370 := S363.back 4 rfl S369
        have hyb374 : ∀ c, (vec EFD v372 []).fp c → yng w13 c := fun c hc => (S369.bd 0 _ rfl c hc).2.elim (fun h => Nat.le_trans hy367.size h) (hyb326 c)
        refine ⟨hk371.mono fun c _ hc => hyb326 c hc, ?_⟩
        have hy375 : Keep (yng w13) w13 w368 := hy367.trans (hk371.mono fun c _ hc => hyb326 c hc)
        refine e_exact 8 _ (by kernel_rfl) rfl rfl (by kernel_rfl) rfl (ex_x rfl (fun w1 h1 => x_buildS (out := [_, _]) (ss := [1, 1]) Tryz.zeroValue25 rfl Tryz.runUnderlying25 ⟨Tryz.sizeOf22, Tryz.sizeOf23, trivial⟩ (fill_cons rfl (Rd.cells (vec_rd (S370.at 5 rfl))) rfl (Nat.le_of_ble_eq_true rfl) (fill_cons rfl (Rd.cells (vec_rd (S370.at 4 rfl))) rfl (Nat.le_of_ble_eq_true rfl) fill_nil)))) ?_
        refine e_next [10] (by kernel_rfl) (by kernel_rfl) ⟨⟨_, _, rfl, rfl, ?_⟩, trivial⟩
        refine s_stores (vs := [_, _]) S370 6 rfl rfl rfl rfl (ones_cons (Rd.one (vec_rd (S370.at 5 rfl))) (ones_cons (Rd.one (vec_rd (S370.at 4 rfl))) ones_nil)) Tryz.sizeOf25 (by first | exact Nat.le_refl _ | simp) (splice_all rfl) ?_
        intro w376 S377 hk378
        refine ⟨(yng_blk hy343 hb366 hk378), ?_⟩
        have hy379 : Keep (yng w13) w13 w376 := hy375.trans ((yng_blk hy343 hb366 hk378))
        refine e_done (by kernel_rfl) ?_
        refine l_nil ?_
        exact HK (b365, v340, v372) _ _ ⟨rfl, rfl, rfl, rfl, rfl, rfl, rfl, trivial⟩ (S377.pick (L' := [_, _, _, _, _, _, _]) [0, 1, 2, 3, 6, 5, 4] (by decide) rfl)
      refine s_allocY S330 rfl Tryz.zeroValue25 rfl ?_
      intro b383 w380 S381 hl382 hb384
      refine ⟨.of_le hl382, ?_⟩
      have hy385 : Keep (yng w13) w13 w380 := hy335.trans (Keep.of_le hl382)
      refine e_next [3] (by kernel_rfl) (by kernel_rfl) ⟨⟨_, _, rfl, rfl, ?_⟩, trivial⟩
      refine s_append EMK (S381.lend 5 rfl) 0 rfl rfl rfl rfl (hB.m.le S381.le) Tryz.underlying22 info39 rfl rfl rfl (by unfold maxLen; simp; omega) (by simp; show _ * 32 ≤ _; omega) ?_
      intro v390 w386 S387 hk389 hv391
      have S388 := S381.back 5 rfl S387
      have hyb392 : ∀ c, (vec EMK v390 []).fp c → yng w13 c := fun c hc => (S387.bd 0 _ rfl c hc).2.elim (fun h => Nat.le_trans hy385.size h) (hyb334 c)
      refine ⟨hk389.mono fun c _ hc => hyb334 c hc, ?_⟩
      have hy393 : Keep (yng w13) w13 w386 := hy385.trans (hk389.mono fun c _ hc => hyb334 c hc)
      refine e_next [7] (by kernel_rfl) (by kernel_rfl) ⟨⟨_, _, rfl, rfl, ?_⟩, trivial⟩
      refine s_append EFD (S388.lend 4 rfl) 0 rfl rfl rfl rfl (hB.f.le S388.le) Tryz.underlying23 info41 rfl rfl rfl (by unfold maxLen; simp; omega) (by simp; show _ * 2 ≤ _; omega) ?_
      intro v398 w394 S395 hk397 hv399
      have S396 := S388.back 4 rfl S395
      have hyb400 : ∀ c, (vec EFD v398 []).fp c → yng w13 c := fun c hc => (S395.bd 0 _ rfl c hc).2.elim (fun h => Nat.le_trans hy393.size h) (hyb326 c)
      refine ⟨hk397.mono fun c _ hc => hyb326 c hc, ?_⟩
      have hy401 : Keep (yng w13) w13 w394 := hy393.trans (hk397.mono fun c _ hc => hyb326 c hc)
      refine e_exact 8 _ (by kernel_rfl) rfl rfl (by kernel_rfl) rfl (ex_x rfl (fun w1 h1 => x_buildS (out := [_, _]) (ss := [1, 1]) Tryz.zeroValue25 rfl Tryz.runUnderlying25 ⟨Tryz.sizeOf22, Tryz.sizeOf23, trivial⟩ (fill_cons rfl (Rd.cells (vec_rd (S396.at 5 rfl))) rfl (Nat.le_of_ble_eq_true rfl) (fill_cons rfl (Rd.cells (vec_rd (S396.at 4 rfl))) rfl (Nat.le_of_ble_eq_true rfl) fill_nil)))) ?_
      refine e_next [10] (by kernel_rfl) (by kernel_rfl) ⟨⟨_, _, rfl, rfl, ?_⟩, trivial⟩
      refine s_stores (vs := [_, _]) S396 6 rfl rfl rfl rfl (ones_cons (Rd.one (vec_rd (S396.at 5 rfl))) (ones_cons (Rd.one (vec_rd (S396.at 4 rfl))) ones_nil)) Tryz.sizeOf25 (by first | exact Nat.le_refl _ | simp) (splice_all rfl) ?_
      intro w402 S403 hk404
      refine ⟨(yng_blk hy335 hb384 hk404), ?_⟩
      have hy405 : Keep (yng w13) w13 w402 := hy401.trans ((yng_blk hy335 hb384 hk404))
      refine e_done (by kernel_rfl) ?_
      refine l_nil ?_
      exact HK (b383, v390, v398) _ _ ⟨rfl, rfl, rfl, rfl, rfl, rfl, rfl, trivial⟩ (S403.pick (L' := [_, _, _, _, _, _, _]) [0, 1, 2, 3, 6, 5, 4] (by decide) rfl)
    refine s_allocY S322 rfl Tryz.zeroValue25 rfl ?_
    intro b409 w406 S407 hl408 hb410
    refine ⟨.of_le hl408, ?_⟩
    have hy411 : Keep (yng w13) w13 w406 := hy327.trans (Keep.of_le hl408)
    refine e_next [0] (by kernel_rfl) (by kernel_rfl) ⟨⟨_, _, rfl, rfl, ?_⟩, trivial⟩
    refine s_buildSlice EMK [] (Own.start (X := nob) w406) rfl Tryz.runUnderlying22 Tryz.sizeOf39 Tryz.zeroValue39 rfl trivial (by decide) ?_
    intro v416 w412 S413 hl415
    have hn417 := S413.new 0 rfl
    have S414 := S407.add hl415 hn417
    refine ⟨.of_le hl415, ?_⟩
    have hyb418 : ∀ c, (vec EMK v416 []).fp c → yng w13 c := fun c hc => Nat.le_trans hy411.size (hn417.bd c hc).1
    have hy419 : Keep (yng w13) w13 w412 := hy411.trans (Keep.of_le hl415)
    refine e_next [3] (by kernel_rfl) (by kernel_rfl) ⟨⟨_, _, rfl, rfl, ?_⟩, trivial⟩
    refine s_append EMK (S414.lend 6 rfl) 0 rfl rfl rfl rfl (hB.m.le S414.le) Tryz.underlying22 info39 rfl rfl rfl (by unfold maxLen; simp; omega) (by simp; show _ * 32 ≤ _; omega) ?_
    intro v424 w420 S421 hk423 hv425
    have S422 := S414.back 6 rfl S421
    have hyb426 : ∀ c, (vec EMK v424 []).fp c → yng w13 c := fun c hc => (S421.bd 0 _ rfl c hc).2.elim (fun h => Nat.le_trans hy419.size h) (hyb418 c)
    refine ⟨hk423.mono fun c _ hc => hyb418 c hc, ?_⟩
    have hy427 : Keep (yng w13) w13 w420 := hy419.trans (hk423.mono fun c _ hc => hyb418 c hc)
    refine e_next [7] (by kernel_rfl) (by kernel_rfl) ⟨⟨_, _, rfl, rfl, ?_⟩, trivial⟩
    refine s_append EFD (S422.lend 4 rfl) 0 rfl rfl rfl rfl (hB.f.le S422.le) Tryz.underlying23 info41 rfl rfl rfl (by unfold maxLen; simp; omega) (by simp; show _ * 2 ≤ _; omega) ?_
    intro v432 w428 S429 hk431 hv433
    have S430 := S422.back 4 rfl S429
    have hyb434 : ∀ c, (vec EFD v432 []).fp c → yng w13 c := fun c hc => (S429.bd 0 _ rfl c hc).2.elim (fun h => Nat.le_trans hy427.size h) (hyb326 c)
    refine ⟨hk431.mono fun c _ hc => hyb326 c hc, ?_⟩
    have hy435 : Keep (yng w13) w13 w428 := hy427.trans (hk431.mono fun c _ hc => hyb326 c hc)
    refine e_exact 8 _ (by kernel_rfl) rfl rfl (by kernel_rfl) rfl (ex_x rfl (fun w1 h1 => x_buildS (out := [_, _]) (ss := [1, 1]) Tryz.zeroValue25 rfl Tryz.runUnderlying25 ⟨Tryz.sizeOf22, Tryz.sizeOf23, trivial⟩ (fill_cons rfl (Rd.cells (vec_rd (S430.at 6 rfl))) rfl (Nat.le_of_ble_eq_true rfl) (fill_cons rfl (Rd.cells (vec_rd (S430.at 4 rfl))) rfl (Nat.le_of_ble_eq_true rfl) fill_nil)))) ?_
    refine e_next [10] (by kernel_rfl) (by kernel_rfl) ⟨⟨_, _, rfl, rfl, ?_⟩, trivial⟩
    refine s_stores (vs := [_, _]) S430 5 rfl rfl rfl rfl (ones_cons (Rd.one (vec_rd (S430.at 6 rfl))) (ones_cons (Rd.one (vec_rd (S430.at 4 rfl))) ones_nil)) Tryz.sizeOf25 (by first | exact Nat.le_refl _ | simp) (splice_all rfl) ?_
    intro w436 S437 hk438
    refine ⟨(yng_blk hy327 hb410 hk438), ?_⟩
    have hy439 : Keep (yng w13) w13 w436 := hy435.trans ((yng_blk hy327 hb410 hk438))
    refine e_done (by kernel_rfl) ?_
    refine l_nil ?_
    exact HK (b409, v424, v432) _ _ ⟨rfl, rfl, rfl, rfl, rfl, rfl, rfl, trivial⟩ (S437.pick (L' := [_, _, _, _, _, _, _]) [0, 1, 2, 3, 5, 6, 4] (by decide) rfl)
  refine s_allocY S92 rfl Tryz.zeroValue25 rfl ?_
  intro b443 w440 S441 hl442 hb444
  refine ⟨.of_le hl442, ?_⟩
  have hy445 : Keep (yng w13) w13 w440 := hy93.trans (Keep.of_le hl442)
  refine e_next [0, 4] (by kernel_rfl) (by kernel_rfl) ⟨⟨_, _, rfl, rfl, ?_⟩, ⟨_, _, rfl, rfl, ?_⟩, trivial⟩
  · skip
    refine s_buildSlice EMK [] (Own.start (X := nob) w440) rfl Tryz.runUnderlying22 Tryz.sizeOf39 Tryz.zeroValue39 rfl trivial (by decide) ?_
    intro v450 w446 S447 hl449
    have hn451 := S447.new 0 rfl
    have S448 := S441.add hl449 hn451
    refine ⟨.of_le hl449, ?_⟩
    have hyb452 : ∀ c, (vec EMK v450 []).fp c → yng w13 c := fun c hc => Nat.le_trans hy445.size (hn451.bd c hc).1
    have hy453 : Keep (yng w13) w13 w446 := hy445.trans (Keep.of_le hl449)
    refine e_next [3, 4] (by kernel_rfl) (by kernel_rfl) ⟨⟨_, _, rfl, rfl, ?_⟩, ⟨_, _, rfl, rfl, ?_⟩, trivial⟩
    · skip
      refine s_append EMK (S448.lend 5 rfl) 0 rfl rfl rfl rfl (hB.m.le S448.le) Tryz.underlying22 info39 rfl rfl rfl (by unfold maxLen; simp; omega) (by simp; show _ * 32 ≤ _; omega) ?_
      intro v458 w454 S455 hk457 hv459
      have S456 := S448.back 5 rfl S455
      have hyb460 : ∀ c, (vec EMK v458 []).fp c → yng w13 c := fun c hc => (S455.bd 0 _ rfl c hc).2.elim (fun h => Nat.le_trans hy453.size h) (hyb452 c)
      refine ⟨hk457.mono fun c _ hc => hyb452 c hc, ?_⟩
      have hy461 : Keep (yng w13) w13 w454 := hy453.trans (hk457.mono fun c _ hc => hyb452 c hc)
      refine e_next [4] (by kernel_rfl) (by kernel_rfl) ⟨⟨_, _, rfl, rfl, ?_⟩, trivial⟩
      refine s_buildSlice EFD [] (Own.start (X := nob) w454) rfl Tryz.runUnderlying23 Tryz.sizeOf41 Tryz.zeroValue41 rfl trivial (by decide) ?_
      intro v466 w462 S463 hl465
      have hn467 := S463.new 0 rfl
      have S464 := S456.add hl465 hn467
      refine ⟨.of_le hl465, ?_⟩
      have hyb468 : ∀ c, (vec EFD v466 []).fp c → yng w13 c := fun c hc => Nat.le_trans hy461.size (hn467.bd c hc).1
      have hy469 : Keep (yng w13) w13 w462 := hy461.trans (Keep.of_le hl465)
      refine e_next [7] (by kernel_rfl) (by kernel_rfl) ⟨⟨_, _, rfl, rfl, ?_⟩, trivial⟩
      refine s_append EFD (S464.lend 6 rfl) 0 rfl rfl rfl rfl (hB.f.le S464.le) Tryz.underlying23 info41 rfl rfl rfl (by unfold maxLen; simp; omega) (by simp; show _ * 2 ≤ _; omega) ?_
      intro v474 w470 S471 hk473 hv475
      have S472 := S464.back 6 rfl S471
      have hyb476 : ∀ c, (vec EFD v474 []).fp c → yng w13 c := fun c hc => (S471.bd 0 _ rfl c hc).2.elim (fun h => Nat.le_trans hy469.size h) (hyb468 c)
      refine ⟨hk473.mono fun c _ hc => hyb468 c hc, ?_⟩
      have hy477 : Keep (yng w13) w13 w470 := hy469.trans (hk473.mono fun c _ hc => hyb468 c hc)
      refine e_exact 8 _ (by kernel_rfl) rfl rfl (by kernel_rfl) rfl (ex_x rfl (fun w1 h1 => x_buildS (out := [_, _]) (ss := [1, 1]) Tryz.zeroValue25 rfl Tryz.runUnderlying25 ⟨Tryz.sizeOf22, Tryz.sizeOf23, trivial⟩ (fill_cons rfl (Rd.cells (vec_rd (S472.at 5 rfl))) rfl (Nat.le_of_ble_eq_true rfl) (fill_cons rfl (Rd.cells (vec_rd (S472.at 6 rfl))) rfl (Nat.le_of_ble_eq_true rfl) fill_nil)))) ?_
      refine e_next [10] (by kernel_rfl) (by kernel_rfl) ⟨⟨_, _, rfl, rfl, ?_⟩, trivial⟩
      refine s_stores (vs := [_, _]) S472 4 rfl rfl rfl rfl (ones_cons (Rd.one (vec_rd (S472.at 5 rfl))) (ones_cons (Rd.one (vec_rd (S472.at 6 rfl))) ones_nil)) Tryz.sizeOf25 (by first | exact Nat.le_refl _ | simp) (splice_all rfl) ?_
      intro w478 S479 hk480
      refine ⟨(yng_blk hy93 hb444 hk480), ?_⟩
      have hy481 : Keep (yng w13) w13 w478 := hy477.trans ((yng_blk hy93 hb444 hk480))
      refine e_done (by kernel_rfl) ?_
      refine l_nil ?_
      exact HK (b443, v458, v474) _ _ ⟨rfl, rfl, rfl, rfl, rfl, rfl, rfl, trivial⟩ (S479.pick (L' := [_, _, _, _, _, _, _]) [0, 1, 2, 3, 4, 5, 6] (by decide) rfl)
    refine s_buildSlice EFD [] (Own.start (X := nob) w446) rfl Tryz.runUnderlying23 Tryz.sizeOf41 Tryz.zeroValue41 rfl trivial (by decide) ?_
    intro v486 w482 S483 hl485
    have hn487 := S483.new 0 rfl
    have S484 := S448.add hl485 hn487
    refine ⟨.of_le hl485, ?_⟩
    have hyb488 : ∀ c, (vec EFD v486 []).fp c → yng w13 c := fun c hc => Nat.le_trans hy453.size (hn487.bd c hc).1
    have hy489 : Keep (yng w13) w13 w482 := hy453.trans (Keep.of_le hl485)
    refine e_next [3] (by kernel_rfl) (by kernel_rfl) ⟨⟨_, _, rfl, rfl, ?_⟩, trivial⟩
    refine s_append EMK (S484.lend 5 rfl) 0 rfl rfl rfl rfl (hB.m.le S484.le) Tryz.underlying22 info39 rfl rfl rfl (by unfold maxLen; simp; omega) (by simp; show _ * 32 ≤ _; omega) ?_
    intro v494 w490 S491 hk493 hv495
    have S492 := S484.back 5 rfl S491
    have hyb496 : ∀ c, (vec EMK v494 []).fp c → yng w13 c := fun c hc => (S491.bd 0 _ rfl c hc).2.elim (fun h => Nat.le_trans hy489.size h) (hyb452 c)
    refine ⟨hk493.mono fun c _ hc => hyb452 c hc, ?_⟩
    have hy497 : Keep (yng w13) w13 w490 := hy489.trans (hk493.mono fun c _ hc => hyb452 c hc)
    refine e_next [7] (by kernel_rfl) (by kernel_rfl) ⟨⟨_, _, rfl, rfl, ?_⟩, trivial⟩
    refine s_append EFD (S492.lend 6 rfl) 0 rfl rfl rfl rfl (hB.f.le S492.le) Tryz.underlying23 info41 rfl rfl rfl (by unfold maxLen; simp; omega) (by simp; show _ * 2 ≤ _; omega) ?_
    intro v502 w498 S499 hk501 hv503
    have S500 := S492.back 6 rfl S499
    have hyb504 : ∀ c, (vec EFD v502 []).fp c → yng w13 c := fun c hc => (S499.bd 0 _ rfl c hc).2.elim (fun h => Nat.le_trans hy497.size h) (hyb488 c)
    refine ⟨hk501.mono fun c _ hc => hyb488 c hc, ?_⟩
    have hy505 : Keep (yng w13) w13 w498 := hy497.trans (hk501.mono fun c _ hc => hyb488 c hc)
    refine e_exact 8 _ (by kernel_rfl) rfl rfl (by kernel_rfl) rfl (ex_x rfl (fun w1 h1 => x_buildS (out := [_, _]) (ss := [1, 1]) Tryz.zeroValue25 rfl Tryz.runUnderlying25 ⟨Tryz.sizeOf22, Tryz.sizeOf23, trivial⟩ (fill_cons rfl (Rd.cells (vec_rd (S500.at 5 rfl))) rfl (Nat.le_of_ble_eq_true rfl) (fill_cons rfl (Rd.cells (vec_rd (S500.at 6 rfl))) rfl (Nat.le_of_ble_eq_true rfl) fill_nil)))) ?_
    refine e_next [10] (by kernel_rfl) (by kernel_rfl) ⟨⟨_, _, rfl, rfl, ?_⟩, trivial⟩
    refine s_stores (vs := [_, _]) S500 4 rfl rfl rfl rfl (ones_cons (Rd.one (vec_rd (S500.at 5 rfl))) (ones_cons (Rd.one (vec_rd (S500.at 6 rfl))) ones_nil)) Tryz.sizeOf25 (by first | exact Nat.le_refl _ | simp) (splice_all rfl) ?_
    intro w506 S507 hk508
    refine ⟨(yng_blk hy93 hb444 hk508), ?_⟩
    have hy509 : Keep (yng w13) w13 w506 := hy505.trans ((yng_blk hy93 hb444 hk508))
    refine e_done (by kernel_rfl) ?_
    refine l_nil ?_
    exact HK (b443, v494, v502) _ _ ⟨rfl, rfl, rfl, rfl, rfl, rfl, rfl, trivial⟩ (S507.pick (L' := [_, _, _, _, _, _, _]) [0, 1, 2, 3, 4, 5, 6] (by decide) rfl)
  refine s_buildSlice EFD [] (Own.start (X := nob) w440) rfl Tryz.runUnderlying23 Tryz.sizeOf41 Tryz.zeroValue41 rfl trivial (by decide) ?_
  intro v514 w510 S511 hl513
  have hn515 := S511.new 0 rfl
  have S512 := S441.add hl513 hn515
  refine ⟨.of_le hl513, ?_⟩
  have hyb516 : ∀ c, (vec EFD v514 []).fp c → yng w13 c := fun c hc => Nat.le_trans hy445.size (hn515.bd c hc).1
  have hy517 : Keep (yng w13) w13 w510 := hy445.trans (Keep.of_le hl513)
  refine e_next [0] (by kernel_rfl) (by kernel_rfl) ⟨⟨_, _, rfl, rfl, ?_⟩, trivial⟩
  refine s_buildSlice EMK [] (Own.start (X := nob) w510) rfl Tryz.runUnderlying22 Tryz.sizeOf39 Tryz.zeroValue39 rfl trivial (by decide) ?_
  intro v522 w518 S519 hl521
  have hn523 := S519.new 0 rfl
  have S520 := S512.add hl521 hn523
  refine ⟨.of_le hl521, ?_⟩
  have hyb524 : ∀ c, (vec EMK v522 []).fp c → yng w13 c := fun c hc => Nat.le_trans hy517.size (hn523.bd c hc).1
  have hy525 : Keep (yng w13) w13 w518 := hy517.trans (Keep.of_le hl521)
  refine e_next [3] (by kernel_rfl) (by kernel_rfl) ⟨⟨_, _, rfl, rfl, ?_⟩, trivial⟩
  refine s_append EMK (S520.lend 6 rfl) 0 rfl rfl rfl rfl (hB.m.le S520.le) Tryz.underlying22 info39 rfl rfl rfl (by unfold maxLen; simp; omega) (by simp; show _ * 32 ≤ _; omega) ?_
  intro v530 w526 S527 hk529 hv531
  have S528 := S520.back 6 rfl S527
  have hyb532 : ∀ c, (vec EMK v530 []).fp c → yng w13 c := fun c hc => (S527.bd 0 _ rfl c hc).2.elim (fun h => Nat.le_trans hy525.size h) (hyb524 c)
  refine ⟨hk529.mono fun c _ hc => hyb524 c hc, ?_⟩
  have hy533 : Keep (yng w13) w13 w526 := hy525.trans (hk529.mono fun c _ hc => hyb524 c hc)
  refine e_next [7] (by kernel_rfl) (by kernel_rfl) ⟨⟨_, _, rfl, rfl, ?_⟩, trivial⟩
  refine s_append EFD (S528.lend 5 rfl) 0 rfl rfl rfl rfl (hB.f.le S528.le) Tryz.underlying23 info41 rfl rfl rfl (by unfold maxLen; simp; omega) (by simp; show _ * 2 ≤ _; omega) ?_
  intro v538 w534 S535 hk537 hv539
  have S536 := S528.back 5 rfl S535
  have hyb540 : ∀ c, (vec EFD v538 []).fp c → yng w13 c := fun c hc => (S535.bd 0 _ rfl c hc).2.elim (fun h => Nat.le_trans hy533.size h) (hyb516 c)
  refine ⟨hk537.mono fun c _ hc => hyb516 c hc, ?_⟩
  have hy541 : Keep (yng w13) w13 w534 := hy533.trans (hk537.mono fun c _ hc => hyb516 c hc)
  refine e_exact 8 _ (by kernel_rfl) rfl rfl (by kernel_rfl) rfl (ex_x rfl (fun w1 h1 => x_buildS (out := [_, _]) (ss := [1, 1]) Tryz.zeroValue25 rfl Tryz.runUnderlying25 ⟨Tryz.sizeOf22, Tryz.sizeOf23, trivial⟩ (fill_cons rfl (Rd.cells (vec_rd (S536.at 6 rfl))) rfl (Nat.le_of_ble_eq_true rfl) (fill_cons rfl (Rd.cells (vec_rd (S536.at 5 rfl))) rfl (Nat.le_of_ble_eq_true rfl) fill_nil)))) ?_
  refine e_next [10] (by kernel_rfl) (by kernel_rfl) ⟨⟨_, _, rfl, rfl, ?_⟩, trivial⟩
  refine s_stores (vs := [_, _]) S536 4 rfl rfl rfl rfl (ones_cons (Rd.one (vec_rd (S536.at 6 rfl))) (ones_cons (Rd.one (vec_rd (S536.at 5 rfl))) ones_nil)) Tryz.sizeOf25 (by first | exact Nat.le_refl _ | simp) (splice_all rfl) ?_
  intro w542 S543 hk544
  refine ⟨(yng_blk hy93 hb444 hk544), ?_⟩
  have hy545 : Keep (yng w13) w13 w542 := hy541.trans ((yng_blk hy93 hb444 hk544))
  refine e_done (by kernel_rfl) ?_
  refine l_nil ?_
  exact HK (b443, v530, v538) _ _ ⟨rfl, rfl, rfl, rfl, rfl, rfl, rfl, trivial⟩ (S543.pick (L' := [_, _, _, _, _, _, _]) [0, 1, 2, 3, 4, 6, 5] (by decide) rfl)

end Go.Proofs
