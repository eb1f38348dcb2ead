/- Texts joined for claims: LTexts. -/
import Derived.Test.YtaigapdghhoncaaGreatDoorKfd521c5264
import Derived.Test.YtaigapdghhoncaaGreatDoorK6ad30c2fc7
import Derived.Test.YtaigapdghhoncaaGreatDoorK6d2c2eb465
set_option linter.unusedVariables false
set_option linter.unusedSimpArgs false
set_option linter.unusedSectionVars false
namespace Go.Proofs
open Go Go.Vk Go.Vk.Flow

open Go.Vk.Mark
open Go.Vk.Deed (i64 rng rng_iff owners sumI sumI_cons sumI_snoc)
open Go.RowKit

section
variable {line : List UInt8} {k : Mk} {s : Sg}
theorem rd_okM : MkOk ((readW line).getD zeroMk) := by
 cases e : readW line with
 | none => exact zero_mk
 | some m =>
  obtain ⟨h1, h2, _⟩ := mark_iff.1 e
  obtain ⟨g1, g2, _⟩ := mark_parts h2
  exact ⟨by unfold B64; simp only [Option.getD_some]; omega, by unfold B64; simp only [Option.getD_some]; omega, by unfold B64; simp only [Option.getD_some]; omega, h1⟩
theorem rd_okS : SgOk ((seenW (splitW line)).getD zeroSg) := by
 cases e : seenW (splitW line) with
 | none => constructor <;> (unfold B8; decide)
 | some m => exact (sgt_iff.1 e).1
theorem rd_writ (hk : MkOk k) (hm : markB k = true) : readW (writeW k) = some k := mark_iff.2 ⟨hk.s, hm, rfl⟩
theorem rd_told (hs : SgOk s) (hb : sightB s = true) : seenW (splitW (toldW s)) = some s := sgt_iff.2 ⟨hs, hb, rfl⟩
theorem writ_len (hm : markB k = true) : (writeW k).length ≤ 900 := by
 obtain ⟨g1, g2, g3⟩ := mark_parts hm
 have n1 := itoa_len (n := k.owner) (by omega) (by omega)
 have n2 := itoa_len (n := k.frm) (by omega) (by omega)
 have n3 := itoa_len (n := k.til) (by omega) (by omega)
 have n4 := told_small (s := k.s)
 rw [← write_cat]
 simp only [List.length_append, List.length_singleton]; omega
theorem c_rReadT (hln : line.length ≤ 900) (w : World) : Cl Tryz.prog 67 #[.string (bs line)] w fun v w' => v = .tuple #[Value.agg (encMk ((readW line).getD zeroMk)).toArray, .int .i64 (if (readW line).isSome = true then 0 else 4)] ∧ Le w w' := by
 have h := c_rRead line hln w
 rw [rm_eq] at h; exact h
theorem c_rReadST (hln : line.length ≤ 900) (w : World) : Cl Tryz.prog 71 #[.string (bs line)] w fun v w' => v = .tuple #[Value.agg (encSg ((seenW (splitW line)).getD zeroSg)).toArray, .int .i64 (if (seenW (splitW line)).isSome = true then 0 else 4)] ∧ Le w w' := by
 have h := c_rReadSight line hln w
 rw [rs_eq] at h; exact h
theorem c_ReadK (hk : MkOk k) (hm : markB k = true) (w : World) (hG : Gl2 w) : Cl Tryz.prog 66 #[.string (bs (writeW k))] w fun v w' => v = .tuple #[Value.agg (encMk k).toArray, .int .i64 0] ∧ Bl w w' := by
 have h := c_Read (writeW k) (writ_len hm) w hG
 rw [rd_writ hk hm] at h; exact h
theorem c_ReadS (hs : SgOk s) (hb : sightB s = true) (w : World) (hG : Gl w) : Cl Tryz.prog 70 #[.string (bs (toldW s))] w fun v w' => v = .tuple #[Value.agg (encSg s).toArray, .int .i64 0] ∧ Le w w' := by
 have h := c_ReadSight (toldW s) (by have := told_small (s := s); omega) w hG
 rw [rd_told hs hb] at h; exact h
end

set_option maxHeartbeats 1000000 in
theorem lawTexts (k : Mk) (hk : MkOk k) (s : Sg) (hs : SgOk s) (line : List UInt8) (w : World) (hG : Gl2 w) :
  Cl Tryz.prog 18 #[Value.agg (encMk k).toArray, Value.agg (encSg s).toArray, .string (bs line)] w fun v w' => v = .bool true ∧ Bl w w' := by
 refine fn_of_run (args := [_, _, _]) 136 Tryz.func18 rfl rfl rfl fun cs => ?_
 have S := Own.startZ (X := nob) w
 refine r_seq ?_
 refine r_region ?_
 refine l_box S rfl rfl ?_
 intro b4 w1 S2 hl3
 refine l_box S2 rfl rfl ?_
 intro b8 w5 S6 hl7
 refine l_a rfl ?_
 refine l_nil ?_
 refine r_seq ?_
 refine r_seq ?_
 refine r_region ?_
 refine l_m rfl ?_
 refine l_x rfl (x_lenbs rfl Tryz.runUnderlying9) ?_
 refine l_x rfl (x_gtr rfl rfl) ?_
 refine l_nil ?_
 refine r_ifd rfl (fun hc29 => ?_) (fun hc29 => ?_)
 ·skip
  refine r_seq ?_
  refine r_region ?_
  refine l_call [] [] [] rfl rfl Tryz.call20 rfl (c_marked _ (hG.bl S6.le).g) ?_
  rintro _ w9 ⟨rfl, hl11⟩
  have S10 := S6.stepZ (by first | exact hl11 | exact hl11.bl)
  refine l_a rfl ?_
  refine l_nil ?_
  refine r_ret (rs := [.tmp 6]) [_] Tryz.func18 rfl ⟨rfl, trivial⟩ ?_
  exact ⟨rfl, S10.le⟩
 refine r_skip ?_
 refine r_seq ?_
 refine r_region ?_
 refine l_x rfl (x_load rfl (ld_blks (S6.blk 0 rfl) Tryz.isAgg39 Tryz.sizeOf39 rfl rfl)) ?_
 refine l_call [] [] [_] rfl rfl Tryz.call64 rfl (c_Write k hk _ (hG.bl S6.le)) ?_
 rintro _ w12 (⟨hmw, rfl, hl3312⟩ | ⟨hmw, rfl, hl3312⟩)
 ·skip
  have S13 := S6.stepZ (by first | exact hl3312 | exact hl3312.bl)
  refine l_m rfl ?_
  refine l_x rfl (x_extract rfl rfl) ?_
  refine l_x rfl (x_extract rfl rfl) ?_
  refine l_a rfl ?_
  refine l_a rfl ?_
  refine l_nil ?_
  refine r_seq ?_
  refine r_region ?_
  refine l_x rfl (x_load rfl (ld_blks (S13.blk 0 rfl) Tryz.isAgg39 Tryz.sizeOf39 rfl rfl)) ?_
  refine l_call [] [] [_] rfl rfl Tryz.call65 rfl (c_rWrite k hk _) ?_
  rintro _ w14 (⟨hmx, rfl, hl3814⟩ | ⟨hmx, rfl, hl3814⟩)
  ·skip
   have S15 := S13.stepZ (by first | exact hl3814 | exact hl3814.bl)
   refine l_m rfl ?_
   refine l_x rfl (x_extract rfl rfl) ?_
   refine l_x rfl (x_extract rfl rfl) ?_
   refine l_a rfl ?_
   refine l_a rfl ?_
   refine l_nil ?_
   refine r_seq ?_
   refine r_region ?_
   refine l_m rfl ?_
   refine l_call [] [] [_] rfl rfl Tryz.call66 rfl (c_Read line (by omega) _ (hG.bl S15.le)) ?_
   rintro _ w16 ⟨rfl, hl18⟩
   have S17 := S15.stepZ (by first | exact hl18 | exact hl18.bl)
   refine l_m rfl ?_
   refine l_x rfl (x_extract rfl rfl) ?_
   refine l_x rfl (x_extract rfl rfl) ?_
   refine l_alloc S17 rfl Tryz.zeroValue39 rfl ?_
   intro b22 w19 S20 hl21
   refine l_stores (vs := [_, _, _, _, _, _, _, _, _]) S20 2 rfl rfl rfl rfl (ones_cons rfl (ones_cons rfl (ones_cons rfl (ones_cons rfl (ones_cons rfl (ones_cons rfl (ones_cons rfl (ones_cons rfl (ones_cons rfl ones_nil))))))))) Tryz.sizeOf39 (by first | exact Nat.le_refl _ | simp) (splice_all rfl) ?_
   intro w23 S24 hk25
   refine l_a rfl ?_
   refine l_nil ?_
   refine r_seq ?_
   refine r_region ?_
   refine l_m rfl ?_
   refine l_call [] [] [_] rfl rfl Tryz.call67 rfl (c_rReadT (line := line) (by omega) _) ?_
   rintro _ w26 ⟨rfl, hl28⟩
   have S27 := S24.stepZ (by first | exact hl28 | exact hl28.bl)
   refine l_m rfl ?_
   refine l_x rfl (x_extract rfl rfl) ?_
   refine l_x rfl (x_extract rfl rfl) ?_
   refine l_alloc S27 rfl Tryz.zeroValue39 rfl ?_
   intro b32 w29 S30 hl31
   refine l_stores (vs := [_, _, _, _, _, _, _, _, _]) S30 3 rfl rfl rfl rfl (ones_cons rfl (ones_cons rfl (ones_cons rfl (ones_cons rfl (ones_cons rfl (ones_cons rfl (ones_cons rfl (ones_cons rfl (ones_cons rfl ones_nil))))))))) Tryz.sizeOf39 (by first | exact Nat.le_refl _ | simp) (splice_all rfl) ?_
   intro w33 S34 hk35
   refine l_a rfl ?_
   refine l_nil ?_
   refine r_seq ?_
   refine r_seq ?_
   refine r_region ?_
   refine l_m rfl ?_
   refine l_m rfl ?_
   refine l_x rfl (x_nebs (a := []) (b := []) rfl rfl) ?_
   refine l_m rfl ?_
   refine l_split (d := 54) rfl (fun hg54 => ?_) (fun hg54 => ?_)
   ·simp at hg54
   refine l_m rfl ?_
   refine l_m rfl ?_
   refine l_x rfl (x_neq rfl rfl) ?_
   refine l_x rfl (x_pick_f rfl rfl) ?_
   refine l_m rfl ?_
   refine l_splitd (d := 59) rfl (fun hg59 => ?_) (fun hg59 => ?_)
   ·exact absurd rfl hg59
   refine l_x rfl (x_load rfl (ld_blks (S34.blk 2 rfl) Tryz.isAgg39 Tryz.sizeOf39 rfl rfl)) ?_
   refine l_x rfl (x_load rfl (ld_blks (S34.blk 3 rfl) Tryz.isAgg39 Tryz.sizeOf39 rfl rfl)) ?_
   refine l_x rfl (x_neS keyMk rd_okM rd_okM rfl rfl) ?_
   refine l_x rfl (x_pick_f rfl rfl) ?_
   refine l_m rfl ?_
   refine l_splitd (d := 64) rfl (fun hg64 => ?_) (fun hg64 => ?_)
   ·exact absurd rfl hg64
   refine l_m rfl ?_
   refine l_m rfl ?_
   refine l_x rfl (x_neq rfl rfl) ?_
   refine l_x rfl (x_pick_f rfl rfl) ?_
   refine l_nil ?_
   refine r_ifd rfl (fun hc68 => ?_) (fun hc68 => ?_)
   ·exact absurd rfl hc68
   refine r_skip ?_
   refine r_seq ?_
   refine r_region ?_
   refine l_x rfl (x_load rfl (ld_blks (S34.blk 1 rfl) Tryz.isAgg30 Tryz.sizeOf30 rfl rfl)) ?_
   refine l_call [] [] [_] rfl rfl Tryz.call68 rfl (c_WriteSight s hs _) ?_
   rintro _ w36 (⟨hsw, rfl, hl7136⟩ | ⟨hsw, rfl, hl7136⟩)
   ·skip
    have S37 := S34.stepZ (by first | exact hl7136 | exact hl7136.bl)
    refine l_m rfl ?_
    refine l_x rfl (x_extract rfl rfl) ?_
    refine l_x rfl (x_extract rfl rfl) ?_
    refine l_a rfl ?_
    refine l_a rfl ?_
    refine l_nil ?_
    refine r_seq ?_
    refine r_region ?_
    refine l_x rfl (x_load rfl (ld_blks (S37.blk 1 rfl) Tryz.isAgg30 Tryz.sizeOf30 rfl rfl)) ?_
    refine l_call [] [] [_] rfl rfl Tryz.call69 rfl (c_rWriteSight s hs _) ?_
    rintro _ w38 (⟨hsx, rfl, hl7638⟩ | ⟨hsx, rfl, hl7638⟩)
    ·skip
     have S39 := S37.stepZ (by first | exact hl7638 | exact hl7638.bl)
     refine l_m rfl ?_
     refine l_x rfl (x_extract rfl rfl) ?_
     refine l_x rfl (x_extract rfl rfl) ?_
     refine l_a rfl ?_
     refine l_a rfl ?_
     refine l_nil ?_
     refine r_seq ?_
     refine r_region ?_
     refine l_m rfl ?_
     refine l_call [] [] [_] rfl rfl Tryz.call70 rfl (c_ReadSight line (by omega) _ (hG.bl S39.le).g) ?_
     rintro _ w40 ⟨rfl, hl42⟩
     have S41 := S39.stepZ (by first | exact hl42 | exact hl42.bl)
     refine l_m rfl ?_
     refine l_x rfl (x_extract rfl rfl) ?_
     refine l_x rfl (x_extract rfl rfl) ?_
     refine l_alloc S41 rfl Tryz.zeroValue30 rfl ?_
     intro b46 w43 S44 hl45
     refine l_stores (vs := [_, _, _, _, _, _]) S44 4 rfl rfl rfl rfl (ones_cons rfl (ones_cons rfl (ones_cons rfl (ones_cons rfl (ones_cons rfl (ones_cons rfl ones_nil)))))) Tryz.sizeOf30 (by first | exact Nat.le_refl _ | simp) (splice_all rfl) ?_
     intro w47 S48 hk49
     refine l_a rfl ?_
     refine l_nil ?_
     refine r_seq ?_
     refine r_region ?_
     refine l_m rfl ?_
     refine l_call [] [] [_] rfl rfl Tryz.call71 rfl (c_rReadST (line := line) (by omega) _) ?_
     rintro _ w50 ⟨rfl, hl52⟩
     have S51 := S48.stepZ (by first | exact hl52 | exact hl52.bl)
     refine l_m rfl ?_
     refine l_x rfl (x_extract rfl rfl) ?_
     refine l_x rfl (x_extract rfl rfl) ?_
     refine l_alloc S51 rfl Tryz.zeroValue30 rfl ?_
     intro b56 w53 S54 hl55
     refine l_stores (vs := [_, _, _, _, _, _]) S54 5 rfl rfl rfl rfl (ones_cons rfl (ones_cons rfl (ones_cons rfl (ones_cons rfl (ones_cons rfl (ones_cons rfl ones_nil)))))) Tryz.sizeOf30 (by first | exact Nat.le_refl _ | simp) (splice_all rfl) ?_
     intro w57 S58 hk59
     refine l_a rfl ?_
     refine l_nil ?_
     refine r_seq ?_
     refine r_seq ?_
     refine r_region ?_
     refine l_m rfl ?_
     refine l_m rfl ?_
     refine l_x rfl (x_nebs (a := []) (b := []) rfl rfl) ?_
     refine l_m rfl ?_
     refine l_split (d := 92) rfl (fun hg92 => ?_) (fun hg92 => ?_)
     ·simp at hg92
     refine l_m rfl ?_
     refine l_m rfl ?_
     refine l_x rfl (x_neq rfl rfl) ?_
     refine l_x rfl (x_pick_f rfl rfl) ?_
     refine l_m rfl ?_
     refine l_splitd (d := 97) rfl (fun hg97 => ?_) (fun hg97 => ?_)
     ·exact absurd rfl hg97
     refine l_x rfl (x_load rfl (ld_blks (S58.blk 4 rfl) Tryz.isAgg30 Tryz.sizeOf30 rfl rfl)) ?_
     refine l_x rfl (x_load rfl (ld_blks (S58.blk 5 rfl) Tryz.isAgg30 Tryz.sizeOf30 rfl rfl)) ?_
     refine l_x rfl (x_neS keySi rd_okS rd_okS rfl rfl) ?_
     refine l_x rfl (x_pick_f rfl rfl) ?_
     refine l_m rfl ?_
     refine l_splitd (d := 102) rfl (fun hg102 => ?_) (fun hg102 => ?_)
     ·exact absurd rfl hg102
     refine l_m rfl ?_
     refine l_m rfl ?_
     refine l_x rfl (x_neq rfl rfl) ?_
     refine l_x rfl (x_pick_f rfl rfl) ?_
     refine l_nil ?_
     refine r_ifd rfl (fun hc106 => ?_) (fun hc106 => ?_)
     ·exact absurd rfl hc106
     refine r_skip ?_
     refine r_seq ?_
     refine r_seq ?_
     refine r_region ?_
     refine l_m rfl ?_
     refine l_x rfl (x_eql rfl rfl) ?_
     refine l_nil ?_
     refine r_ifd rfl (fun hc108 => ?_) (fun hc108 => ?_)
     ·exact absurd hc108 (by decide)
     refine r_skip ?_
     refine r_seq ?_
     refine r_seq ?_
     refine r_region ?_
     refine l_m rfl ?_
     refine l_x rfl (x_eql rfl rfl) ?_
     refine l_nil ?_
     refine r_ifd rfl (fun hc122 => ?_) (fun hc122 => ?_)
     ·exact absurd hc122 (by decide)
     refine r_skip ?_
     refine r_seq ?_
     refine r_region ?_
     refine l_call [] [] [] rfl rfl Tryz.call20 rfl (c_marked _ (hG.bl S58.le).g) ?_
     rintro _ w60 ⟨rfl, hl62⟩
     have S61 := S58.stepZ (by first | exact hl62 | exact hl62.bl)
     refine l_a rfl ?_
     refine l_nil ?_
     refine r_ret (rs := [.tmp 6]) [_] Tryz.func18 rfl ⟨rfl, trivial⟩ ?_
     exact ⟨rfl, S61.le⟩
    exact absurd (hsw.symm.trans hsx) (by decide)
   have S63 := S34.stepZ (by first | exact hl7136 | exact hl7136.bl)
   refine l_m rfl ?_
   refine l_x rfl (x_extract rfl rfl) ?_
   refine l_x rfl (x_extract rfl rfl) ?_
   refine l_a rfl ?_
   refine l_a rfl ?_
   refine l_nil ?_
   refine r_seq ?_
   refine r_region ?_
   refine l_x rfl (x_load rfl (ld_blks (S63.blk 1 rfl) Tryz.isAgg30 Tryz.sizeOf30 rfl rfl)) ?_
   refine l_call [] [] [_] rfl rfl Tryz.call69 rfl (c_rWriteSight s hs _) ?_
   rintro _ w64 (⟨hsx, rfl, hl7664⟩ | ⟨hsx, rfl, hl7664⟩)
   ·exact absurd (hsw.symm.trans hsx) (by decide)
   have S65 := S63.stepZ (by first | exact hl7664 | exact hl7664.bl)
   refine l_m rfl ?_
   refine l_x rfl (x_extract rfl rfl) ?_
   refine l_x rfl (x_extract rfl rfl) ?_
   refine l_a rfl ?_
   refine l_a rfl ?_
   refine l_nil ?_
   refine r_seq ?_
   refine r_region ?_
   refine l_m rfl ?_
   refine l_call [] [] [_] rfl rfl Tryz.call70 rfl (c_ReadSight line (by omega) _ (hG.bl S65.le).g) ?_
   rintro _ w66 ⟨rfl, hl68⟩
   have S67 := S65.stepZ (by first | exact hl68 | exact hl68.bl)
   refine l_m rfl ?_
   refine l_x rfl (x_extract rfl rfl) ?_
   refine l_x rfl (x_extract rfl rfl) ?_
   refine l_alloc S67 rfl Tryz.zeroValue30 rfl ?_
   intro b72 w69 S70 hl71
   refine l_stores (vs := [_, _, _, _, _, _]) S70 4 rfl rfl rfl rfl (ones_cons rfl (ones_cons rfl (ones_cons rfl (ones_cons rfl (ones_cons rfl (ones_cons rfl ones_nil)))))) Tryz.sizeOf30 (by first | exact Nat.le_refl _ | simp) (splice_all rfl) ?_
   intro w73 S74 hk75
   refine l_a rfl ?_
   refine l_nil ?_
   refine r_seq ?_
   refine r_region ?_
   refine l_m rfl ?_
   refine l_call [] [] [_] rfl rfl Tryz.call71 rfl (c_rReadST (line := line) (by omega) _) ?_
   rintro _ w76 ⟨rfl, hl78⟩
   have S77 := S74.stepZ (by first | exact hl78 | exact hl78.bl)
   refine l_m rfl ?_
   refine l_x rfl (x_extract rfl rfl) ?_
   refine l_x rfl (x_extract rfl rfl) ?_
   refine l_alloc S77 rfl Tryz.zeroValue30 rfl ?_
   intro b82 w79 S80 hl81
   refine l_stores (vs := [_, _, _, _, _, _]) S80 5 rfl rfl rfl rfl (ones_cons rfl (ones_cons rfl (ones_cons rfl (ones_cons rfl (ones_cons rfl (ones_cons rfl ones_nil)))))) Tryz.sizeOf30 (by first | exact Nat.le_refl _ | simp) (splice_all rfl) ?_
   intro w83 S84 hk85
   refine l_a rfl ?_
   refine l_nil ?_
   refine r_seq ?_
   refine r_seq ?_
   refine r_region ?_
   refine l_m rfl ?_
   refine l_m rfl ?_
   refine l_x rfl (x_nebs (a := (toldW s)) (b := (toldW s)) rfl rfl) ?_
   refine l_m rfl ?_
   refine l_split (d := 92) rfl (fun hg92 => ?_) (fun hg92 => ?_)
   ·simp at hg92
   refine l_m rfl ?_
   refine l_m rfl ?_
   refine l_x rfl (x_neq rfl rfl) ?_
   refine l_x rfl (x_pick_f rfl rfl) ?_
   refine l_m rfl ?_
   refine l_splitd (d := 97) rfl (fun hg97 => ?_) (fun hg97 => ?_)
   ·exact absurd rfl hg97
   refine l_x rfl (x_load rfl (ld_blks (S84.blk 4 rfl) Tryz.isAgg30 Tryz.sizeOf30 rfl rfl)) ?_
   refine l_x rfl (x_load rfl (ld_blks (S84.blk 5 rfl) Tryz.isAgg30 Tryz.sizeOf30 rfl rfl)) ?_
   refine l_x rfl (x_neS keySi rd_okS rd_okS rfl rfl) ?_
   refine l_x rfl (x_pick_f rfl rfl) ?_
   refine l_m rfl ?_
   refine l_splitd (d := 102) rfl (fun hg102 => ?_) (fun hg102 => ?_)
   ·exact absurd rfl hg102
   refine l_m rfl ?_
   refine l_m rfl ?_
   refine l_x rfl (x_neq rfl rfl) ?_
   refine l_x rfl (x_pick_f rfl rfl) ?_
   refine l_nil ?_
   refine r_ifd rfl (fun hc106 => ?_) (fun hc106 => ?_)
   ·exact absurd rfl hc106
   refine r_skip ?_
   refine r_seq ?_
   refine r_seq ?_
   refine r_region ?_
   refine l_m rfl ?_
   refine l_x rfl (x_eql rfl rfl) ?_
   refine l_nil ?_
   refine r_ifd rfl (fun hc108 => ?_) (fun hc108 => ?_)
   ·exact absurd hc108 (by decide)
   refine r_skip ?_
   refine r_seq ?_
   refine r_seq ?_
   refine r_region ?_
   refine l_m rfl ?_
   refine l_x rfl (x_eql rfl rfl) ?_
   refine l_nil ?_
   refine r_ifd rfl (fun hc122 => ?_) (fun hc122 => ?_)
   ·skip
    refine r_seq ?_
    refine r_region ?_
    refine l_m rfl ?_
    refine l_call [] [] [_] rfl rfl Tryz.call70 rfl (c_ReadS hs hsw _ (hG.bl S84.le).g) ?_
    rintro _ w86 ⟨rfl, hl88⟩
    have S87 := S84.stepZ (by first | exact hl88 | exact hl88.bl)
    refine l_m rfl ?_
    refine l_x rfl (x_extract rfl rfl) ?_
    refine l_x rfl (x_extract rfl rfl) ?_
    refine l_alloc S87 rfl Tryz.zeroValue30 rfl ?_
    intro b92 w89 S90 hl91
    refine l_stores (vs := [_, _, _, _, _, _]) S90 6 rfl rfl rfl rfl (ones_cons rfl (ones_cons rfl (ones_cons rfl (ones_cons rfl (ones_cons rfl (ones_cons rfl ones_nil)))))) Tryz.sizeOf30 (by first | exact Nat.le_refl _ | simp) (splice_all rfl) ?_
    intro w93 S94 hk95
    refine l_a rfl ?_
    refine l_nil ?_
    refine r_seq ?_
    refine r_region ?_
    refine l_m rfl ?_
    refine l_x rfl (x_neq rfl rfl) ?_
    refine l_m rfl ?_
    refine l_splitd (d := 130) rfl (fun hg130 => ?_) (fun hg130 => ?_)
    ·exact absurd rfl hg130
    refine l_x rfl (x_load rfl (ld_blks (S94.blk 6 rfl) Tryz.isAgg30 Tryz.sizeOf30 rfl rfl)) ?_
    refine l_x rfl (x_load rfl (ld_blks (S94.blk 1 rfl) Tryz.isAgg30 Tryz.sizeOf30 rfl rfl)) ?_
    refine l_x rfl (x_neS keySi hs hs rfl rfl) ?_
    refine l_x rfl (x_pick_f rfl rfl) ?_
    refine l_nil ?_
    refine r_ifd rfl (fun hc134 => ?_) (fun hc134 => ?_)
    ·exact absurd rfl hc134
    refine r_skip ?_
    refine r_seq ?_
    refine r_region ?_
    refine l_call [] [] [] rfl rfl Tryz.call20 rfl (c_marked _ (hG.bl S94.le).g) ?_
    rintro _ w96 ⟨rfl, hl98⟩
    have S97 := S94.stepZ (by first | exact hl98 | exact hl98.bl)
    refine l_a rfl ?_
    refine l_nil ?_
    refine r_ret (rs := [.tmp 6]) [_] Tryz.func18 rfl ⟨rfl, trivial⟩ ?_
    exact ⟨rfl, S97.le⟩
   exact absurd rfl hc122
  exact absurd (hmw.symm.trans hmx) (by decide)
 have S99 := S6.stepZ (by first | exact hl3312 | exact hl3312.bl)
 refine l_m rfl ?_
 refine l_x rfl (x_extract rfl rfl) ?_
 refine l_x rfl (x_extract rfl rfl) ?_
 refine l_a rfl ?_
 refine l_a rfl ?_
 refine l_nil ?_
 refine r_seq ?_
 refine r_region ?_
 refine l_x rfl (x_load rfl (ld_blks (S99.blk 0 rfl) Tryz.isAgg39 Tryz.sizeOf39 rfl rfl)) ?_
 refine l_call [] [] [_] rfl rfl Tryz.call65 rfl (c_rWrite k hk _) ?_
 rintro _ w100 (⟨hmx, rfl, hl38100⟩ | ⟨hmx, rfl, hl38100⟩)
 ·exact absurd (hmw.symm.trans hmx) (by decide)
 have S101 := S99.stepZ (by first | exact hl38100 | exact hl38100.bl)
 refine l_m rfl ?_
 refine l_x rfl (x_extract rfl rfl) ?_
 refine l_x rfl (x_extract rfl rfl) ?_
 refine l_a rfl ?_
 refine l_a rfl ?_
 refine l_nil ?_
 refine r_seq ?_
 refine r_region ?_
 refine l_m rfl ?_
 refine l_call [] [] [_] rfl rfl Tryz.call66 rfl (c_Read line (by omega) _ (hG.bl S101.le)) ?_
 rintro _ w102 ⟨rfl, hl104⟩
 have S103 := S101.stepZ (by first | exact hl104 | exact hl104.bl)
 refine l_m rfl ?_
 refine l_x rfl (x_extract rfl rfl) ?_
 refine l_x rfl (x_extract rfl rfl) ?_
 refine l_alloc S103 rfl Tryz.zeroValue39 rfl ?_
 intro b108 w105 S106 hl107
 refine l_stores (vs := [_, _, _, _, _, _, _, _, _]) S106 2 rfl rfl rfl rfl (ones_cons rfl (ones_cons rfl (ones_cons rfl (ones_cons rfl (ones_cons rfl (ones_cons rfl (ones_cons rfl (ones_cons rfl (ones_cons rfl ones_nil))))))))) Tryz.sizeOf39 (by first | exact Nat.le_refl _ | simp) (splice_all rfl) ?_
 intro w109 S110 hk111
 refine l_a rfl ?_
 refine l_nil ?_
 refine r_seq ?_
 refine r_region ?_
 refine l_m rfl ?_
 refine l_call [] [] [_] rfl rfl Tryz.call67 rfl (c_rReadT (line := line) (by omega) _) ?_
 rintro _ w112 ⟨rfl, hl114⟩
 have S113 := S110.stepZ (by first | exact hl114 | exact hl114.bl)
 refine l_m rfl ?_
 refine l_x rfl (x_extract rfl rfl) ?_
 refine l_x rfl (x_extract rfl rfl) ?_
 refine l_alloc S113 rfl Tryz.zeroValue39 rfl ?_
 intro b118 w115 S116 hl117
 refine l_stores (vs := [_, _, _, _, _, _, _, _, _]) S116 3 rfl rfl rfl rfl (ones_cons rfl (ones_cons rfl (ones_cons rfl (ones_cons rfl (ones_cons rfl (ones_cons rfl (ones_cons rfl (ones_cons rfl (ones_cons rfl ones_nil))))))))) Tryz.sizeOf39 (by first | exact Nat.le_refl _ | simp) (splice_all rfl) ?_
 intro w119 S120 hk121
 refine l_a rfl ?_
 refine l_nil ?_
 refine r_seq ?_
 refine r_seq ?_
 refine r_region ?_
 refine l_m rfl ?_
 refine l_m rfl ?_
 refine l_x rfl (x_nebs (a := (writeW k)) (b := (writeW k)) rfl rfl) ?_
 refine l_m rfl ?_
 refine l_split (d := 54) rfl (fun hg54 => ?_) (fun hg54 => ?_)
 ·simp at hg54
 refine l_m rfl ?_
 refine l_m rfl ?_
 refine l_x rfl (x_neq rfl rfl) ?_
 refine l_x rfl (x_pick_f rfl rfl) ?_
 refine l_m rfl ?_
 refine l_splitd (d := 59) rfl (fun hg59 => ?_) (fun hg59 => ?_)
 ·exact absurd rfl hg59
 refine l_x rfl (x_load rfl (ld_blks (S120.blk 2 rfl) Tryz.isAgg39 Tryz.sizeOf39 rfl rfl)) ?_
 refine l_x rfl (x_load rfl (ld_blks (S120.blk 3 rfl) Tryz.isAgg39 Tryz.sizeOf39 rfl rfl)) ?_
 refine l_x rfl (x_neS keyMk rd_okM rd_okM rfl rfl) ?_
 refine l_x rfl (x_pick_f rfl rfl) ?_
 refine l_m rfl ?_
 refine l_splitd (d := 64) rfl (fun hg64 => ?_) (fun hg64 => ?_)
 ·exact absurd rfl hg64
 refine l_m rfl ?_
 refine l_m rfl ?_
 refine l_x rfl (x_neq rfl rfl) ?_
 refine l_x rfl (x_pick_f rfl rfl) ?_
 refine l_nil ?_
 refine r_ifd rfl (fun hc68 => ?_) (fun hc68 => ?_)
 ·exact absurd rfl hc68
 refine r_skip ?_
 refine r_seq ?_
 refine r_region ?_
 refine l_x rfl (x_load rfl (ld_blks (S120.blk 1 rfl) Tryz.isAgg30 Tryz.sizeOf30 rfl rfl)) ?_
 refine l_call [] [] [_] rfl rfl Tryz.call68 rfl (c_WriteSight s hs _) ?_
 rintro _ w122 (⟨hsw, rfl, hl71122⟩ | ⟨hsw, rfl, hl71122⟩)
 ·skip
  have S123 := S120.stepZ (by first | exact hl71122 | exact hl71122.bl)
  refine l_m rfl ?_
  refine l_x rfl (x_extract rfl rfl) ?_
  refine l_x rfl (x_extract rfl rfl) ?_
  refine l_a rfl ?_
  refine l_a rfl ?_
  refine l_nil ?_
  refine r_seq ?_
  refine r_region ?_
  refine l_x rfl (x_load rfl (ld_blks (S123.blk 1 rfl) Tryz.isAgg30 Tryz.sizeOf30 rfl rfl)) ?_
  refine l_call [] [] [_] rfl rfl Tryz.call69 rfl (c_rWriteSight s hs _) ?_
  rintro _ w124 (⟨hsx, rfl, hl76124⟩ | ⟨hsx, rfl, hl76124⟩)
  ·skip
   have S125 := S123.stepZ (by first | exact hl76124 | exact hl76124.bl)
   refine l_m rfl ?_
   refine l_x rfl (x_extract rfl rfl) ?_
   refine l_x rfl (x_extract rfl rfl) ?_
   refine l_a rfl ?_
   refine l_a rfl ?_
   refine l_nil ?_
   refine r_seq ?_
   refine r_region ?_
   refine l_m rfl ?_
   refine l_call [] [] [_] rfl rfl Tryz.call70 rfl (c_ReadSight line (by omega) _ (hG.bl S125.le).g) ?_
   rintro _ w126 ⟨rfl, hl128⟩
   have S127 := S125.stepZ (by first | exact hl128 | exact hl128.bl)
   refine l_m rfl ?_
   refine l_x rfl (x_extract rfl rfl) ?_
   refine l_x rfl (x_extract rfl rfl) ?_
   refine l_alloc S127 rfl Tryz.zeroValue30 rfl ?_
   intro b132 w129 S130 hl131
   refine l_stores (vs := [_, _, _, _, _, _]) S130 4 rfl rfl rfl rfl (ones_cons rfl (ones_cons rfl (ones_cons rfl (ones_cons rfl (ones_cons rfl (ones_cons rfl ones_nil)))))) Tryz.sizeOf30 (by first | exact Nat.le_refl _ | simp) (splice_all rfl) ?_
   intro w133 S134 hk135
   refine l_a rfl ?_
   refine l_nil ?_
   refine r_seq ?_
   refine r_region ?_
   refine l_m rfl ?_
   refine l_call [] [] [_] rfl rfl Tryz.call71 rfl (c_rReadST (line := line) (by omega) _) ?_
   rintro _ w136 ⟨rfl, hl138⟩
   have S137 := S134.stepZ (by first | exact hl138 | exact hl138.bl)
   refine l_m rfl ?_
   refine l_x rfl (x_extract rfl rfl) ?_
   refine l_x rfl (x_extract rfl rfl) ?_
   refine l_alloc S137 rfl Tryz.zeroValue30 rfl ?_
   intro b142 w139 S140 hl141
   refine l_stores (vs := [_, _, _, _, _, _]) S140 5 rfl rfl rfl rfl (ones_cons rfl (ones_cons rfl (ones_cons rfl (ones_cons rfl (ones_cons rfl (ones_cons rfl ones_nil)))))) Tryz.sizeOf30 (by first | exact Nat.le_refl _ | simp) (splice_all rfl) ?_
   intro w143 S144 hk145
   refine l_a rfl ?_
   refine l_nil ?_
   refine r_seq ?_
   refine r_seq ?_
   refine r_region ?_
   refine l_m rfl ?_
   refine l_m rfl ?_
   refine l_x rfl (x_nebs (a := []) (b := []) rfl rfl) ?_
   refine l_m rfl ?_
   refine l_split (d := 92) rfl (fun hg92 => ?_) (fun hg92 => ?_)
   ·simp at hg92
   refine l_m rfl ?_
   refine l_m rfl ?_
   refine l_x rfl (x_neq rfl rfl) ?_
   refine l_x rfl (x_pick_f rfl rfl) ?_
   refine l_m rfl ?_
   refine l_splitd (d := 97) rfl (fun hg97 => ?_) (fun hg97 => ?_)
   ·exact absurd rfl hg97
   refine l_x rfl (x_load rfl (ld_blks (S144.blk 4 rfl) Tryz.isAgg30 Tryz.sizeOf30 rfl rfl)) ?_
   refine l_x rfl (x_load rfl (ld_blks (S144.blk 5 rfl) Tryz.isAgg30 Tryz.sizeOf30 rfl rfl)) ?_
   refine l_x rfl (x_neS keySi rd_okS rd_okS rfl rfl) ?_
   refine l_x rfl (x_pick_f rfl rfl) ?_
   refine l_m rfl ?_
   refine l_splitd (d := 102) rfl (fun hg102 => ?_) (fun hg102 => ?_)
   ·exact absurd rfl hg102
   refine l_m rfl ?_
   refine l_m rfl ?_
   refine l_x rfl (x_neq rfl rfl) ?_
   refine l_x rfl (x_pick_f rfl rfl) ?_
   refine l_nil ?_
   refine r_ifd rfl (fun hc106 => ?_) (fun hc106 => ?_)
   ·exact absurd rfl hc106
   refine r_skip ?_
   refine r_seq ?_
   refine r_seq ?_
   refine r_region ?_
   refine l_m rfl ?_
   refine l_x rfl (x_eql rfl rfl) ?_
   refine l_nil ?_
   refine r_ifd rfl (fun hc108 => ?_) (fun hc108 => ?_)
   ·skip
    refine r_seq ?_
    refine r_region ?_
    refine l_m rfl ?_
    refine l_call [] [] [_] rfl rfl Tryz.call66 rfl (c_ReadK hk hmw _ (hG.bl S144.le)) ?_
    rintro _ w146 ⟨rfl, hl148⟩
    have S147 := S144.stepZ (by first | exact hl148 | exact hl148.bl)
    refine l_m rfl ?_
    refine l_x rfl (x_extract rfl rfl) ?_
    refine l_x rfl (x_extract rfl rfl) ?_
    refine l_alloc S147 rfl Tryz.zeroValue39 rfl ?_
    intro b152 w149 S150 hl151
    refine l_stores (vs := [_, _, _, _, _, _, _, _, _]) S150 6 rfl rfl rfl rfl (ones_cons rfl (ones_cons rfl (ones_cons rfl (ones_cons rfl (ones_cons rfl (ones_cons rfl (ones_cons rfl (ones_cons rfl (ones_cons rfl ones_nil))))))))) Tryz.sizeOf39 (by first | exact Nat.le_refl _ | simp) (splice_all rfl) ?_
    intro w153 S154 hk155
    refine l_a rfl ?_
    refine l_nil ?_
    refine r_seq ?_
    refine r_region ?_
    refine l_m rfl ?_
    refine l_x rfl (x_neq rfl rfl) ?_
    refine l_m rfl ?_
    refine l_splitd (d := 116) rfl (fun hg116 => ?_) (fun hg116 => ?_)
    ·exact absurd rfl hg116
    refine l_x rfl (x_load rfl (ld_blks (S154.blk 6 rfl) Tryz.isAgg39 Tryz.sizeOf39 rfl rfl)) ?_
    refine l_x rfl (x_load rfl (ld_blks (S154.blk 0 rfl) Tryz.isAgg39 Tryz.sizeOf39 rfl rfl)) ?_
    refine l_x rfl (x_neS keyMk hk hk rfl rfl) ?_
    refine l_x rfl (x_pick_f rfl rfl) ?_
    refine l_nil ?_
    refine r_ifd rfl (fun hc120 => ?_) (fun hc120 => ?_)
    ·exact absurd rfl hc120
    refine r_skip ?_
    refine r_seq ?_
    refine r_seq ?_
    refine r_region ?_
    refine l_m rfl ?_
    refine l_x rfl (x_eql rfl rfl) ?_
    refine l_nil ?_
    refine r_ifd rfl (fun hc122 => ?_) (fun hc122 => ?_)
    ·exact absurd hc122 (by decide)
    refine r_skip ?_
    refine r_seq ?_
    refine r_region ?_
    refine l_call [] [] [] rfl rfl Tryz.call20 rfl (c_marked _ (hG.bl S154.le).g) ?_
    rintro _ w156 ⟨rfl, hl158⟩
    have S157 := S154.stepZ (by first | exact hl158 | exact hl158.bl)
    refine l_a rfl ?_
    refine l_nil ?_
    refine r_ret (rs := [.tmp 6]) [_] Tryz.func18 rfl ⟨rfl, trivial⟩ ?_
    exact ⟨rfl, S157.le⟩
   exact absurd rfl hc108
  exact absurd (hsw.symm.trans hsx) (by decide)
 have S159 := S120.stepZ (by first | exact hl71122 | exact hl71122.bl)
 refine l_m rfl ?_
 refine l_x rfl (x_extract rfl rfl) ?_
 refine l_x rfl (x_extract rfl rfl) ?_
 refine l_a rfl ?_
 refine l_a rfl ?_
 refine l_nil ?_
 refine r_seq ?_
 refine r_region ?_
 refine l_x rfl (x_load rfl (ld_blks (S159.blk 1 rfl) Tryz.isAgg30 Tryz.sizeOf30 rfl rfl)) ?_
 refine l_call [] [] [_] rfl rfl Tryz.call69 rfl (c_rWriteSight s hs _) ?_
 rintro _ w160 (⟨hsx, rfl, hl76160⟩ | ⟨hsx, rfl, hl76160⟩)
 ·exact absurd (hsw.symm.trans hsx) (by decide)
 have S161 := S159.stepZ (by first | exact hl76160 | exact hl76160.bl)
 refine l_m rfl ?_
 refine l_x rfl (x_extract rfl rfl) ?_
 refine l_x rfl (x_extract rfl rfl) ?_
 refine l_a rfl ?_
 refine l_a rfl ?_
 refine l_nil ?_
 refine r_seq ?_
 refine r_region ?_
 refine l_m rfl ?_
 refine l_call [] [] [_] rfl rfl Tryz.call70 rfl (c_ReadSight line (by omega) _ (hG.bl S161.le).g) ?_
 rintro _ w162 ⟨rfl, hl164⟩
 have S163 := S161.stepZ (by first | exact hl164 | exact hl164.bl)
 refine l_m rfl ?_
 refine l_x rfl (x_extract rfl rfl) ?_
 refine l_x rfl (x_extract rfl rfl) ?_
 refine l_alloc S163 rfl Tryz.zeroValue30 rfl ?_
 intro b168 w165 S166 hl167
 refine l_stores (vs := [_, _, _, _, _, _]) S166 4 rfl rfl rfl rfl (ones_cons rfl (ones_cons rfl (ones_cons rfl (ones_cons rfl (ones_cons rfl (ones_cons rfl ones_nil)))))) Tryz.sizeOf30 (by first | exact Nat.le_refl _ | simp) (splice_all rfl) ?_
 intro w169 S170 hk171
 refine l_a rfl ?_
 refine l_nil ?_
 refine r_seq ?_
 refine r_region ?_
 refine l_m rfl ?_
 refine l_call [] [] [_] rfl rfl Tryz.call71 rfl (c_rReadST (line := line) (by omega) _) ?_
 rintro _ w172 ⟨rfl, hl174⟩
 have S173 := S170.stepZ (by first | exact hl174 | exact hl174.bl)
 refine l_m rfl ?_
 refine l_x rfl (x_extract rfl rfl) ?_
 refine l_x rfl (x_extract rfl rfl) ?_
 refine l_alloc S173 rfl Tryz.zeroValue30 rfl ?_
 intro b178 w175 S176 hl177
 refine l_stores (vs := [_, _, _, _, _, _]) S176 5 rfl rfl rfl rfl (ones_cons rfl (ones_cons rfl (ones_cons rfl (ones_cons rfl (ones_cons rfl (ones_cons rfl ones_nil)))))) Tryz.sizeOf30 (by first | exact Nat.le_refl _ | simp) (splice_all rfl) ?_
 intro w179 S180 hk181
 refine l_a rfl ?_
 refine l_nil ?_
 refine r_seq ?_
 refine r_seq ?_
 refine r_region ?_
 refine l_m rfl ?_
 refine l_m rfl ?_
 refine l_x rfl (x_nebs (a := (toldW s)) (b := (toldW s)) rfl rfl) ?_
 refine l_m rfl ?_
 refine l_split (d := 92) rfl (fun hg92 => ?_) (fun hg92 => ?_)
 ·simp at hg92
 refine l_m rfl ?_
 refine l_m rfl ?_
 refine l_x rfl (x_neq rfl rfl) ?_
 refine l_x rfl (x_pick_f rfl rfl) ?_
 refine l_m rfl ?_
 refine l_splitd (d := 97) rfl (fun hg97 => ?_) (fun hg97 => ?_)
 ·exact absurd rfl hg97
 refine l_x rfl (x_load rfl (ld_blks (S180.blk 4 rfl) Tryz.isAgg30 Tryz.sizeOf30 rfl rfl)) ?_
 refine l_x rfl (x_load rfl (ld_blks (S180.blk 5 rfl) Tryz.isAgg30 Tryz.sizeOf30 rfl rfl)) ?_
 refine l_x rfl (x_neS keySi rd_okS rd_okS rfl rfl) ?_
 refine l_x rfl (x_pick_f rfl rfl) ?_
 refine l_m rfl ?_
 refine l_splitd (d := 102) rfl (fun hg102 => ?_) (fun hg102 => ?_)
 ·exact absurd rfl hg102
 refine l_m rfl ?_
 refine l_m rfl ?_
 refine l_x rfl (x_neq rfl rfl) ?_
 refine l_x rfl (x_pick_f rfl rfl) ?_
 refine l_nil ?_
 refine r_ifd rfl (fun hc106 => ?_) (fun hc106 => ?_)
 ·exact absurd rfl hc106
 refine r_skip ?_
 refine r_seq ?_
 refine r_seq ?_
 refine r_region ?_
 refine l_m rfl ?_
 refine l_x rfl (x_eql rfl rfl) ?_
 refine l_nil ?_
 refine r_ifd rfl (fun hc108 => ?_) (fun hc108 => ?_)
 ·skip
  refine r_seq ?_
  refine r_region ?_
  refine l_m rfl ?_
  refine l_call [] [] [_] rfl rfl Tryz.call66 rfl (c_ReadK hk hmw _ (hG.bl S180.le)) ?_
  rintro _ w182 ⟨rfl, hl184⟩
  have S183 := S180.stepZ (by first | exact hl184 | exact hl184.bl)
  refine l_m rfl ?_
  refine l_x rfl (x_extract rfl rfl) ?_
  refine l_x rfl (x_extract rfl rfl) ?_
  refine l_alloc S183 rfl Tryz.zeroValue39 rfl ?_
  intro b188 w185 S186 hl187
  refine l_stores (vs := [_, _, _, _, _, _, _, _, _]) S186 6 rfl rfl rfl rfl (ones_cons rfl (ones_cons rfl (ones_cons rfl (ones_cons rfl (ones_cons rfl (ones_cons rfl (ones_cons rfl (ones_cons rfl (ones_cons rfl ones_nil))))))))) Tryz.sizeOf39 (by first | exact Nat.le_refl _ | simp) (splice_all rfl) ?_
  intro w189 S190 hk191
  refine l_a rfl ?_
  refine l_nil ?_
  refine r_seq ?_
  refine r_region ?_
  refine l_m rfl ?_
  refine l_x rfl (x_neq rfl rfl) ?_
  refine l_m rfl ?_
  refine l_splitd (d := 116) rfl (fun hg116 => ?_) (fun hg116 => ?_)
  ·exact absurd rfl hg116
  refine l_x rfl (x_load rfl (ld_blks (S190.blk 6 rfl) Tryz.isAgg39 Tryz.sizeOf39 rfl rfl)) ?_
  refine l_x rfl (x_load rfl (ld_blks (S190.blk 0 rfl) Tryz.isAgg39 Tryz.sizeOf39 rfl rfl)) ?_
  refine l_x rfl (x_neS keyMk hk hk rfl rfl) ?_
  refine l_x rfl (x_pick_f rfl rfl) ?_
  refine l_nil ?_
  refine r_ifd rfl (fun hc120 => ?_) (fun hc120 => ?_)
  ·exact absurd rfl hc120
  refine r_skip ?_
  refine r_seq ?_
  refine r_seq ?_
  refine r_region ?_
  refine l_m rfl ?_
  refine l_x rfl (x_eql rfl rfl) ?_
  refine l_nil ?_
  refine r_ifd rfl (fun hc122 => ?_) (fun hc122 => ?_)
  ·skip
   refine r_seq ?_
   refine r_region ?_
   refine l_m rfl ?_
   refine l_call [] [] [_] rfl rfl Tryz.call70 rfl (c_ReadS hs hsw _ (hG.bl S190.le).g) ?_
   rintro _ w192 ⟨rfl, hl194⟩
   have S193 := S190.stepZ (by first | exact hl194 | exact hl194.bl)
   refine l_m rfl ?_
   refine l_x rfl (x_extract rfl rfl) ?_
   refine l_x rfl (x_extract rfl rfl) ?_
   refine l_alloc S193 rfl Tryz.zeroValue30 rfl ?_
   intro b198 w195 S196 hl197
   refine l_stores (vs := [_, _, _, _, _, _]) S196 7 rfl rfl rfl rfl (ones_cons rfl (ones_cons rfl (ones_cons rfl (ones_cons rfl (ones_cons rfl (ones_cons rfl ones_nil)))))) Tryz.sizeOf30 (by first | exact Nat.le_refl _ | simp) (splice_all rfl) ?_
   intro w199 S200 hk201
   refine l_a rfl ?_
   refine l_nil ?_
   refine r_seq ?_
   refine r_region ?_
   refine l_m rfl ?_
   refine l_x rfl (x_neq rfl rfl) ?_
   refine l_m rfl ?_
   refine l_splitd (d := 130) rfl (fun hg130 => ?_) (fun hg130 => ?_)
   ·exact absurd rfl hg130
   refine l_x rfl (x_load rfl (ld_blks (S200.blk 7 rfl) Tryz.isAgg30 Tryz.sizeOf30 rfl rfl)) ?_
   refine l_x rfl (x_load rfl (ld_blks (S200.blk 1 rfl) Tryz.isAgg30 Tryz.sizeOf30 rfl rfl)) ?_
   refine l_x rfl (x_neS keySi hs hs rfl rfl) ?_
   refine l_x rfl (x_pick_f rfl rfl) ?_
   refine l_nil ?_
   refine r_ifd rfl (fun hc134 => ?_) (fun hc134 => ?_)
   ·exact absurd rfl hc134
   refine r_skip ?_
   refine r_seq ?_
   refine r_region ?_
   refine l_call [] [] [] rfl rfl Tryz.call20 rfl (c_marked _ (hG.bl S200.le).g) ?_
   rintro _ w202 ⟨rfl, hl204⟩
   have S203 := S200.stepZ (by first | exact hl204 | exact hl204.bl)
   refine l_a rfl ?_
   refine l_nil ?_
   refine r_ret (rs := [.tmp 6]) [_] Tryz.func18 rfl ⟨rfl, trivial⟩ ?_
   exact ⟨rfl, S203.le⟩
  exact absurd rfl hc122
 exact absurd rfl hc108

end Go.Proofs
