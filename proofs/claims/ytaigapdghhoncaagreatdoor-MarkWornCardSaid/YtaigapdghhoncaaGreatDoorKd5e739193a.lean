/- Texts joined for claims: LWorn. -/
import Derived.Test.YtaigapdghhoncaaGreatDoorK8a0fe47e94
import Derived.Test.YtaigapdghhoncaaGreatDoorK0d4e033ce2
set_option linter.unusedVariables false
set_option linter.unusedSimpArgs false
set_option linter.unusedSectionVars false
/-
  Contracts of functions of the program: each by symbolic execution of its text.
-/
namespace Go.Proofs
open Go Go.Vk Go.Vk.Flow

open Go.Vk.Mark
open Go.Vk.Deed (i64 rng rng_iff owners sumI sumI_cons sumI_snoc)

set_option maxHeartbeats 4000000 in
/-- couchant/couchantlaw03.MarkWorn. -/
theorem lawWorn (b : Sm) (vm vf : Value) (day pl : Int) (s : Sg) (hs : SgOk s) (hpl : B8 pl) (w : World) (hB : SmR 39 41 w vm vf b) (hG : Gl w) :
    Cl Tryz.prog 4 #[.agg #[vm, vf], Value.int .i64 day, Value.agg (encSg s).toArray, Value.int .u8 pl] w fun v w' => v = .bool true ∧ Le w w' := by
  have hlm := hB.lm
  have hlf := hB.lf
  unfold B8 at hpl
  have hp6 : (pl % 6).toNat < 6 := by omega
  have hs9 := put_ok (i := (pl % 6).toNat) hs (show B8 9 by unfold B8; omega)
  refine fn_of_run (args := [_, _, _, _]) 59 Tryz.func4 rfl rfl rfl fun cs => ?_
  have S := Own.start (X := nob) w
  refine r_seq ?_
  refine r_region ?_
  refine l_box S rfl rfl ?_
  intro b4 w1 S2 hl3
  refine l_box S2 rfl rfl ?_
  intro b8 w5 S6 hl7
  refine l_x rfl (x_as rfl) ?_
  refine l_nil ?_
  refine r_seq ?_
  refine r_seq ?_
  refine r_region ?_
  refine l_x rfl (x_fieldAddr rfl Tryz.runUnderlying25 rfl Tryz.sizeOf22 (by decide)) ?_
  refine l_x rfl (x_load rfl (ld_blk (S6.blk 0 rfl) Tryz.isAgg22 rfl)) ?_
  refine l_x rfl (x_len (hB.m.le S6.le) rfl Tryz.runUnderlying22) ?_
  refine l_x rfl (x_gtr rfl rfl) ?_
  refine l_nil ?_
  refine r_ifd rfl (fun hc18 => ?_) (fun hc18 => ?_)
  · skip
    refine r_seq ?_
    refine r_region ?_
    refine l_call [] [] [] rfl rfl Tryz.call20 rfl (c_marked _ (hG.le S6.le)) ?_
    rintro _ w9 ⟨rfl, hl11⟩
    have S10 := S6.step hl11
    refine l_x rfl (x_as rfl) ?_
    refine l_nil ?_
    refine r_ret (rs := [.tmp 8]) [_] Tryz.func4 rfl ⟨rfl, trivial⟩ ?_
    exact ⟨rfl, S10.le⟩
  refine r_skip ?_
  refine r_seq ?_
  refine r_region ?_
  refine l_x rfl (x_load rfl (ld_blks (S6.blk 1 rfl) Tryz.isAgg30 Tryz.sizeOf30 rfl rfl)) ?_
  refine l_alloc S6 rfl Tryz.zeroValue30 rfl ?_
  intro b15 w12 S13 hl14
  refine l_stores (vs := [_, _, _, _, _, _]) S13 2 rfl rfl rfl rfl (ones_cons rfl (ones_cons rfl (ones_cons rfl (ones_cons rfl (ones_cons rfl (ones_cons rfl ones_nil)))))) Tryz.sizeOf30 (by first | exact Nat.le_refl _ | simp) (splice_all rfl) ?_
  intro w16 S17 hk18
  refine l_nil ?_
  refine r_seq ?_
  refine r_region ?_
  refine l_x rfl (x_mv rfl) ?_
  refine l_x rfl (x_remk rfl rfl (show 0 ≤ pl ∧ (0 : Int) < 6 by omega)) ?_
  refine l_x rfl (x_fieldAddr rfl Tryz.runUnderlying30 rfl Tryz.sizeOf28 (by decide)) ?_
  refine l_x rfl (x_indexAddr_arrayk rfl rfl Tryz.runUnderlying28 Tryz.sizeOf5 (show 0 ≤ pl % 6 ∧ pl % 6 < 6 by omega)) ?_
  refine l_storeq S17 2 rfl rfl rfl rfl rfl Tryz.sizeOf5 (sgb_lt hp6) (sgb_set hp6) ?_
  intro w19 S20 hk21
  refine l_nil ?_
  refine r_seq ?_
  refine r_seq ?_
  refine r_region ?_
  refine l_x rfl (x_as rfl) ?_
  refine l_nil ?_
  refine r_block ?_
  refine r_loop (G := Nat) (fun i => 40 - i) (fun i => [(1, Value.int .i64 day), (4, .pointer (some ⟨b4, 0, none⟩)), (6, .pointer (some ⟨b8, 0, none⟩)), (9, .pointer (some ⟨b15, 0, none⟩)), (10, Value.int .i64 ((i : Int) + 1))]) (fun i w' => (i ≤ 40) ∧ Own nob w w' [blk b4 [vm, vf] 25, blk b8 (encSg s) 30, blk b15 (encSg (s.put (pl % 6).toNat 9)) 30]) 0 ⟨rfl, rfl, rfl, rfl, rfl, trivial⟩ ⟨Nat.zero_le _, S20⟩ ?_
  rintro i ρ w1 ⟨hi, S1⟩ IH
  refine r_seq ?_
  refine r_seq ?_
  refine r_region ?_
  refine l_x rfl (x_mv rfl) ?_
  refine l_x rfl (x_leq rfl rfl) ?_
  refine l_nil ?_
  refine r_ifd rfl (fun hc26 => ?_) (fun hc26 => ?_)
  · skip
    refine r_skip ?_
    refine r_seq ?_
    refine r_block ?_
    refine r_seq ?_
    refine r_region ?_
    refine l_x rfl (x_load rfl (ld_blks (S1.blk 0 rfl) Tryz.isAgg25 Tryz.sizeOf25 rfl rfl)) ?_
    refine l_x rfl (x_mv rfl) ?_
    refine l_x rfl (x_load rfl (ld_blks (S1.blk 1 rfl) Tryz.isAgg30 Tryz.sizeOf30 rfl rfl)) ?_
    refine l_x rfl (x_mv rfl) ?_
    refine l_call [] [] [_, _, _, _] rfl rfl Tryz.call23 rfl (c_Fits b vm vf day ((i : Int) + 1) s hs _ (hB.le S1.le)) ?_
    rintro _ w22 ⟨rfl, hl24⟩
    have S23 := S1.step hl24
    refine l_x rfl (x_mv rfl) ?_
    refine l_x rfl (x_extract rfl rfl) ?_
    refine l_x rfl (x_extract rfl rfl) ?_
    refine l_x rfl (x_as rfl) ?_
    refine l_x rfl (x_as rfl) ?_
    refine l_nil ?_
    refine r_seq ?_
    refine r_region ?_
    refine l_x rfl (x_load rfl (ld_blks (S23.blk 0 rfl) Tryz.isAgg25 Tryz.sizeOf25 rfl rfl)) ?_
    refine l_x rfl (x_mv rfl) ?_
    refine l_x rfl (x_load rfl (ld_blks (S23.blk 2 rfl) Tryz.isAgg30 Tryz.sizeOf30 rfl rfl)) ?_
    refine l_x rfl (x_mv rfl) ?_
    refine l_call [] [] [_, _, _, _] rfl rfl Tryz.call23 rfl (c_Fits b vm vf day ((i : Int) + 1) (s.put (pl % 6).toNat 9) hs9 _ (hB.le S23.le)) ?_
    rintro _ w25 ⟨rfl, hl27⟩
    have S26 := S23.step hl27
    refine l_x rfl (x_mv rfl) ?_
    refine l_x rfl (x_extract rfl rfl) ?_
    refine l_x rfl (x_extract rfl rfl) ?_
    refine l_x rfl (x_as rfl) ?_
    refine l_x rfl (x_as rfl) ?_
    refine l_nil ?_
    refine r_seq ?_
    refine r_region ?_
    refine l_x rfl (x_mv rfl) ?_
    refine l_x rfl (x_eql rfl rfl) ?_
    refine l_x rfl (x_mv rfl) ?_
    refine l_splitd (d := 47) rfl (fun hg47 => ?_) (fun hg47 => ?_)
    · skip
      refine l_x rfl (x_mv rfl) ?_
      refine l_x rfl (x_neq rfl rfl) ?_
      refine l_x rfl (x_mv rfl) ?_
      refine l_splitd (d := 50) rfl (fun hg50 => ?_) (fun hg50 => ?_)
      · exact absurd (worn_E hp6 hg47) hg50
      refine l_x rfl (x_mv rfl) ?_
      refine l_x rfl (x_mv rfl) ?_
      refine l_split (d := 52) rfl (fun hg52 => ?_) (fun hg52 => ?_)
      · skip
        refine l_x rfl (x_mv rfl) ?_
        refine l_x rfl (x_not rfl) ?_
        refine l_x rfl (x_pick_t rfl rfl) ?_
        refine l_x rfl (x_pick_f rfl rfl) ?_
        refine l_x rfl (x_pick_t rfl rfl) ?_
        refine l_nil ?_
        refine r_if rfl (fun hc57 => ?_) (fun hc57 => ?_)
        · exact absurd (worn_V hp6 hg52) (by simpa using hc57)
        refine r_skip ?_
        refine r_inBlock ?_
        refine r_region ?_
        refine l_x rfl (x_mv rfl) ?_
        refine l_x rfl (x_add rfl rfl (by omega)) ?_
        refine l_x rfl (x_as rfl) ?_
        refine l_nil ?_
        exact IH (i + 1) _ _ (by omega) ⟨rfl, rfl, rfl, rfl, rfl, trivial⟩ ⟨by omega, (S26.take 3)⟩
      refine l_pass rfl ?_
      refine l_pass rfl ?_
      refine l_x rfl (x_pick_f rfl rfl) ?_
      refine l_x rfl (x_pick_f rfl rfl) ?_
      refine l_x rfl (x_pick_t rfl rfl) ?_
      refine l_nil ?_
      refine r_false rfl ?_
      refine r_skip ?_
      refine r_inBlock ?_
      refine r_region ?_
      refine l_x rfl (x_mv rfl) ?_
      refine l_x rfl (x_add rfl rfl (by omega)) ?_
      refine l_x rfl (x_as rfl) ?_
      refine l_nil ?_
      exact IH (i + 1) _ _ (by omega) ⟨rfl, rfl, rfl, rfl, rfl, trivial⟩ ⟨by omega, (S26.take 3)⟩
    refine l_pass rfl ?_
    refine l_pass rfl ?_
    refine l_pass rfl ?_
    refine l_pass rfl ?_
    refine l_pass rfl ?_
    refine l_pass rfl ?_
    refine l_pass rfl ?_
    refine l_pass rfl ?_
    refine l_pass rfl ?_
    refine l_x rfl (x_pick_f rfl rfl) ?_
    refine l_nil ?_
    refine r_false rfl ?_
    refine r_skip ?_
    refine r_inBlock ?_
    refine r_region ?_
    refine l_x rfl (x_mv rfl) ?_
    refine l_x rfl (x_add rfl rfl (by omega)) ?_
    refine l_x rfl (x_as rfl) ?_
    refine l_nil ?_
    exact IH (i + 1) _ _ (by omega) ⟨rfl, rfl, rfl, rfl, rfl, trivial⟩ ⟨by omega, (S26.take 3)⟩
  obtain rfl : i = 40 := by omega
  refine r_exit rfl ?_
  refine r_seq ?_
  refine r_region ?_
  refine l_call [] [] [] rfl rfl Tryz.call20 rfl (c_marked _ (hG.le S1.le)) ?_
  rintro _ w28 ⟨rfl, hl30⟩
  have S29 := S1.step hl30
  refine l_x rfl (x_as rfl) ?_
  refine l_nil ?_
  refine r_ret (rs := [.tmp 8]) [_] Tryz.func4 rfl ⟨rfl, trivial⟩ ?_
  exact ⟨rfl, S29.le⟩

end Go.Proofs
