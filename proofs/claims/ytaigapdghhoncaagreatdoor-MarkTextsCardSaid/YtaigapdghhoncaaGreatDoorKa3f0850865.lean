/- Texts joined for claims: M25. -/
import Derived.Test.YtaigapdghhoncaaGreatDoorK9afd556b26
import Derived.Test.YtaigapdghhoncaaGreatDoorShelf
import Derived.Test.YtaigapdghhoncaaGreatDoorK6d2c2eb465
set_option linter.unusedVariables false
set_option linter.unusedSimpArgs false
set_option linter.unusedSectionVars false
namespace Go.Proofs
open Go Go.Vk Go.Vk.Flow

open Go.Vk.Mark
open Go.Vk.Deed (i64 rng rng_iff owners sumI sumI_cons sumI_snoc)

theorem c_caught0 (b3 : Nat) (w : World) :
  Dl Tryz.prog 134 #[.pointer (some ⟨b3, 0, none⟩)] (.returning) w (fun u w' => u = .returning ∧ Le w w') := by
 refine dl_of_run (args := [_]) 13 Tryz.func134 rfl rfl rfl fun c0 cs hc0 => d_same hc0 ?_
 have S := Own.start (X := nob) w
 refine r_seq ?_
 refine r_region ?_
 refine l_recover0 rfl ?_
 refine l_nil ?_
 refine r_block ?_
 refine r_seq ?_
 refine r_region ?_
 refine l_x rfl (x_niliface Tryz.runUnderlying20 rfl rfl (.inl rfl) rfl) ?_
 refine l_nil ?_
 refine r_true rfl ?_
 refine r_region ?_
 refine l_a rfl ?_
 refine l_nil ?_
 refine r_inBlock ?_
 refine d_end (rs := []) [] Tryz.func134 rfl trivial ?_
 exact ⟨rfl, S.le⟩

theorem c_caught1 (b3 : Nat) (e0 : Int) (w : World) (S : Own (blk b3 [.int .i64 e0] 31).fp w w [blk b3 [.int .i64 e0] 31]) :
  Dl Tryz.prog 134 #[.pointer (some ⟨b3, 0, none⟩)] (.panicking [pentry (.iface 211 (.agg #[]))]) w (fun u w' => u = .panicking [pdone (.iface 211 (.agg #[]))] ∧ Own (blk b3 [.int .i64 e0] 31).fp w w' [blk b3 [.int .i64 4] 31]) := by
 refine dl_of_run (args := [_]) 13 Tryz.func134 rfl rfl rfl fun c0 cs hc0 => d_same hc0 ?_
 refine r_seq ?_
 refine r_region ?_
 refine l_recover rfl ?_
 refine l_nil ?_
 refine r_block ?_
 refine r_seq ?_
 refine r_region ?_
 refine l_x rfl (x_niliface Tryz.runUnderlying20 rfl rfl (.inr ⟨_, _, rfl⟩) rfl) ?_
 refine l_nil ?_
 refine r_false rfl ?_
 refine r_seq ?_
 refine r_region ?_
 refine l_x rfl (x_assert rfl Tryz.runUnderlying211 rfl) ?_
 refine l_x rfl (x_extract rfl rfl) ?_
 refine l_x rfl (x_extract rfl rfl) ?_
 refine l_nil ?_
 refine r_true rfl ?_
 refine r_seq ?_
 refine r_region ?_
 refine l_alloc S rfl Tryz.zeroValue211 rfl ?_
 intro b4 w1 S2 hl3
 refine l_stores (vs := []) S2 1 rfl rfl rfl rfl (ones_nil) Tryz.sizeOf211 (by first | exact Nat.le_refl _ | simp) (splice_all rfl) ?_
 intro w5 S6 hk7
 refine l_nil ?_
 refine r_region ?_
 refine l_m rfl ?_
 refine l_x rfl (x_nilCheck rfl) ?_
 refine l_storeq (c' := [_]) S6 0 rfl rfl rfl rfl rfl Tryz.sizeOf31 (by first | (simp; done) | exact Nat.le_of_ble_eq_true rfl) rfl ?_
 intro w8 S9 hk10
 refine l_nil ?_
 refine r_inBlock ?_
 refine d_end (rs := []) [] Tryz.func134 rfl trivial ?_
 exact ⟨rfl, S9.take 1⟩

def Gl (w : World) : Prop := ∃ m : Int, w.cell? ⟨1, 0, none⟩ = some (.int .i64 m)
theorem Gl.le {w w' : World} (h : Gl w) (hk : Le w w') : Gl w' := let ⟨m, hm⟩ := h; ⟨m, cell_keep hm hk id⟩
theorem c_Split (l : List UInt8) (hl : l.length ≤ 999999) (w : World) (hG : Gl w) : Cl Tryz.prog 135 #[.string (bs l), .string (bs [32])] w fun v w' => New w w' (vec EST v (splitW l)) ∧ Le w w' ∧ (splitW l).length ≤ 1000000 := by
 obtain ⟨m, hm⟩ := hG
 have hle : Lib.countB (bs l) (bs [32]) ≤ l.length := Lib.countB_le (bs [32]) (by decide) l.length (bs l) (Nat.le_refl _)
 have hn := Lib.splitB_all (bs [32]) (by decide) 0 _ (bs l) rfl
 refine (Tryz.strings_Split (bs l) (bs [32]) m w (by show l.length < _; omega) hm (by decide)).mono fun e w' h => ?_
 obtain ⟨he, hw⟩ := h
 refine ⟨_, he, vec_strs hw hn (by unfold maxLen; omega), by rw [hw]; exact Le.alloc_cells .., ?_⟩
 unfold splitW; rw [List.length_map, hn]; omega

set_option maxHeartbeats 2000000 in
theorem c_ReadSight (line : List UInt8) (hln : line.length ≤ 999999) (w : World) (hG : Gl w) :
  Cl Tryz.prog 70 #[.string (bs line)] w fun v w' => v = .tuple #[Value.agg (encSg ((seenW (splitW line)).getD zeroSg)).toArray, .int .i64 (if (seenW (splitW line)).isSome = true then 0 else 4)] ∧ Le w w' := by
 refine fn_of_run (args := [_]) 10 Tryz.func70 rfl rfl rfl fun cs => ?_
 have S := Own.start (X := nob) w
 refine r_seq ?_
 refine r_region ?_
 refine l_alloc S rfl Tryz.zeroValue30 rfl ?_
 intro b4 w1 S2 hl3
 refine l_alloc S2 rfl Tryz.zeroValue31 rfl ?_
 intro b8 w5 S6 hl7
 refine l_nil ?_
 refine r_seq ?_
 refine r_region ?_
 refine l_defer [] [] [_] rfl rfl rfl rfl ?_
 refine l_nil ?_
 refine r_seq ?_
 refine r_region ?_
 refine l_m rfl ?_
 refine l_call [] [] [_, _] rfl rfl Tryz.call135 rfl (c_Split line hln _ (hG.le S6.le)) ?_
 rintro v69 w9 ⟨hN69, hl69, hsl69⟩
 have S10 := S6.add hl69 hN69
 have hsl9 := hsl69
 refine l_callP [] [] [_] rfl rfl Tryz.call138 rfl (c_seen _ (splitW line) hsl9 _ (vec_rd (S10.at 2 rfl))) ?_ ?_
 ·skip
  rintro _ w11 ⟨s9, rfl, hs9, hl12⟩
  have S13 := S10.step hl12
  refine l_x rfl (x_buildS (out := [_, _, _, _, _, _]) (ss := [6]) Tryz.zeroValue30 rfl Tryz.runUnderlying30 ⟨Tryz.sizeOf28, trivial⟩ (fill_cons rfl rfl rfl (Nat.le_of_ble_eq_true rfl) fill_nil)) ?_
  refine l_alloc S13 rfl Tryz.zeroValue30 rfl ?_
  intro b17 w14 S15 hl16
  refine l_stores (vs := [_, _, _, _, _, _]) S15 3 rfl rfl rfl rfl (ones_cons rfl (ones_cons rfl (ones_cons rfl (ones_cons rfl (ones_cons rfl (ones_cons rfl ones_nil)))))) Tryz.sizeOf30 (by first | exact Nat.le_refl _ | simp) (splice_all rfl) ?_
  intro w18 S19 hk20
  refine l_nil ?_
  refine r_seq ?_
  refine r_region ?_
  refine l_x rfl (x_load rfl (ld_blks (S19.blk 3 rfl) Tryz.isAgg30 Tryz.sizeOf30 rfl rfl)) ?_
  refine l_stores (vs := [_, _, _, _, _, _]) S19 0 rfl rfl rfl rfl (ones_cons rfl (ones_cons rfl (ones_cons rfl (ones_cons rfl (ones_cons rfl (ones_cons rfl ones_nil)))))) Tryz.sizeOf30 (by first | exact Nat.le_refl _ | simp) (splice_all rfl) ?_
  intro w21 S22 hk23
  refine l_storeq (c' := [_]) S22 1 rfl rfl rfl rfl rfl Tryz.sizeOf31 (by first | (simp; done) | exact Nat.le_of_ble_eq_true rfl) rfl ?_
  intro w24 S25 hk26
  refine l_nil ?_
  refine r_retU rfl ?_
  refine leave_defer rfl Tryz.call134 (by intro h; cases h) ?_
  change Dl _ _ #[.pointer (some ⟨b8, 0, none⟩)] _ _ _
  refine (c_caught0 _ _).mono ?_
  rintro _ wl ⟨rfl, hll⟩
  have Sl := S25.step hll
  refine leaveU_done (rs := [.cell 2 30, .cell 3 31]) [_, _] Tryz.func70 rfl ⟨⟨_, rfl, (ld_blks (Sl.blk 0 rfl) Tryz.isAgg30 Tryz.sizeOf30 rfl rfl)⟩, ⟨_, rfl, (ld_blk (Sl.blk 1 rfl) Tryz.isAgg31 rfl)⟩, trivial⟩ ?_
  exact ⟨by rw [hs9]; rfl, Sl.le⟩
 rintro _ w27 k ⟨rfl, hs9, hl28⟩
 have S29 := S10.step hl28
 refine leave_defer rfl Tryz.call134 (by intro h; cases h) ?_
 change Dl _ _ #[.pointer (some ⟨b8, 0, none⟩)] _ _ _
 refine (c_caught1 _ 0 _ (S29.lend 1 rfl)).mono ?_
 rintro _ wl ⟨rfl, hl2⟩
 have Sl := S29.back 1 rfl hl2
 refine leaveU_done (rs := [.cell 2 30, .cell 3 31]) [_, _] Tryz.func70 rfl ⟨⟨_, rfl, (ld_blks (Sl.blk 0 rfl) Tryz.isAgg30 Tryz.sizeOf30 rfl rfl)⟩, ⟨_, rfl, (ld_blk (Sl.blk 1 rfl) Tryz.isAgg31 rfl)⟩, trivial⟩ ?_
 exact ⟨by rw [hs9]; rfl, Sl.le⟩

end Go.Proofs
