/-
  The statement of FlowOrder: for every input the law returns true, and its arguments read as they did. No condition.
-/
import Derived.Test.YtddapgjjndbejaaKg
import Derived.Test.YtddapgjjndbejaaKi
/-
  Contracts of functions of the program: each by symbolic execution of its text.
-/
namespace Go.Proofs
open Go Go.Vk Go.Vk.Flow

set_option maxHeartbeats 4000000 in
/-- couchant/couchantlaw06.FlowOrder. -/
theorem lawOrder (N : Int) (va : Value) (arcs : List Arc) (vw : Value) (wl : List Int) (i t : Int) (w : World) (hA : Rd EA w va arcs) (Hwl : Rd EI w vw wl) :
    Cl Try.prog 7 #[.agg #[.int .i64 N, va], vw, .int .i64 i, .int .i64 t] w fun v w' => v = .bool true ∧ Le w w' := by
  refine fn_of_run (args := [_, _, _, _]) 190 Try.func7 rfl rfl rfl fun cs => ?_
  have S := Own.start (X := nob) w
  refine r_seq ?_
  refine r_region ?_
  refine l_box S rfl rfl ?_
  intro b4 w1 S2 hl3
  refine l_x rfl (x_as rfl) ?_
  refine l_nil ?_
  refine r_seq ?_
  refine r_seq ?_
  refine r_region ?_
  refine l_x rfl (x_load rfl (ld_blks (S2.blk 0 rfl) Try.isAgg24 Try.sizeOf24 rfl rfl)) ?_
  refine l_call [] [] [_] rfl rfl Try.call18 rfl (c_small _ _ _ _ (hA.le S2.le)) ?_
  rintro _ w5 ⟨rfl, hl7⟩
  have S6 := S2.step hl7
  refine l_x rfl (x_not rfl) ?_
  refine l_x rfl (x_mv rfl) ?_
  refine l_split (d := 39) rfl (fun hg39 => ?_) (fun hg39 => ?_)
  · skip
    refine l_pass rfl ?_
    refine l_pass rfl ?_
    refine l_pass rfl ?_
    refine l_pass rfl ?_
    refine l_pass rfl ?_
    refine l_pass rfl ?_
    refine l_x rfl (x_pick_t rfl rfl) ?_
    refine l_x rfl (x_mv rfl) ?_
    refine l_pass rfl ?_
    refine l_pass rfl ?_
    refine l_pass rfl ?_
    refine l_x rfl (x_pick_t rfl rfl) ?_
    refine l_nil ?_
    refine r_true rfl ?_
    refine r_seq ?_
    refine r_region ?_
    refine l_call [] [] [] rfl rfl Try.call19 rfl (c_flowing _) ?_
    rintro _ w8 ⟨rfl, hl10⟩
    have S9 := S6.step hl10
    refine l_x rfl (x_as rfl) ?_
    refine l_nil ?_
    refine r_ret (rs := [.tmp 8]) [_] Try.func7 rfl ⟨rfl, trivial⟩ ?_
    exact ⟨rfl, S9.le⟩
  · skip
    refine l_x rfl (x_mv rfl) ?_
    refine l_x rfl (x_len (Hwl.le S6.le) rfl Try.runUnderlying25) ?_
    refine l_x rfl (x_fieldAddr rfl Try.runUnderlying24 rfl Try.sizeOf22 (by decide)) ?_
    refine l_x rfl (x_load rfl (ld_blk (S6.blk 0 rfl) Try.isAgg22 rfl)) ?_
    refine l_x rfl (x_len (hA.le S6.le) rfl Try.runUnderlying22) ?_
    refine l_x rfl (x_neq rfl rfl) ?_
    refine l_x rfl (x_pick_f rfl rfl) ?_
    refine l_x rfl (x_mv rfl) ?_
    refine l_splitd (d := 47) rfl (fun hg47 => ?_) (fun hg47 => ?_)
    · skip
      refine l_pass rfl ?_
      refine l_pass rfl ?_
      refine l_pass rfl ?_
      refine l_x rfl (x_pick_t rfl rfl) ?_
      refine l_nil ?_
      refine r_true rfl ?_
      refine r_seq ?_
      refine r_region ?_
      refine l_call [] [] [] rfl rfl Try.call19 rfl (c_flowing _) ?_
      rintro _ w11 ⟨rfl, hl13⟩
      have S12 := S6.step hl13
      refine l_x rfl (x_as rfl) ?_
      refine l_nil ?_
      refine r_ret (rs := [.tmp 8]) [_] Try.func7 rfl ⟨rfl, trivial⟩ ?_
      exact ⟨rfl, S12.le⟩
    · skip
      refine l_x rfl (x_mv rfl) ?_
      refine l_x rfl (x_len (Hwl.le S6.le) rfl Try.runUnderlying25) ?_
      refine l_x rfl (x_eql rfl rfl) ?_
      refine l_x rfl (x_pick_f rfl rfl) ?_
      refine l_nil ?_
      refine r_ifd rfl (fun hc51 => ?_) (fun hc51 => ?_)
      · skip
        refine r_seq ?_
        refine r_region ?_
        refine l_call [] [] [] rfl rfl Try.call19 rfl (c_flowing _) ?_
        rintro _ w14 ⟨rfl, hl16⟩
        have S15 := S6.step hl16
        refine l_x rfl (x_as rfl) ?_
        refine l_nil ?_
        refine r_ret (rs := [.tmp 8]) [_] Try.func7 rfl ⟨rfl, trivial⟩ ?_
        exact ⟨rfl, S15.le⟩
      · skip
        have hwl : wl.length = arcs.length := by omega
        have hw1 : 0 < wl.length := by omega
        refine r_skip ?_
        refine r_seq ?_
        have hLs := smallB_le (N := N) (n := arcs.length) (by simpa using hg39)
        refine r_region ?_
        refine l_x rfl (x_mv rfl) ?_
        refine l_x rfl (x_len (Hwl.le S6.le) rfl Try.runUnderlying25) ?_
        refine l_x rfl (x_as rfl) ?_
        refine l_nil ?_
        refine r_seq ?_
        have hk0 := Int.emod_nonneg (IntKind.u64.wrap t) (by omega : (wl.length : Int) ≠ 0)
        have hk1 := Int.emod_lt_of_pos (IntKind.u64.wrap t) (by omega : 0 < (wl.length : Int))
        refine r_region ?_
        refine l_x rfl (x_mv rfl) ?_
        refine l_x rfl (x_convertw rfl Try.runUnderlying3 Try.runUnderlying56) ?_
        refine l_x rfl (x_mv rfl) ?_
        refine l_x rfl (x_convert rfl Try.runUnderlying3 Try.runUnderlying56 (u64_in (by omega))) ?_
        refine l_x rfl (x_remk rfl rfl ⟨u64_wrap_nonneg _, by omega⟩) ?_
        refine l_x rfl (x_convert rfl Try.runUnderlying56 Try.runUnderlying3 (i64_in (by omega))) ?_
        refine l_x rfl (x_as rfl) ?_
        refine l_nil ?_
        refine r_seq ?_
        obtain ⟨k, hk⟩ : ∃ k : Nat, IntKind.u64.wrap t % (wl.length : Int) = k := ⟨_, (Int.toNat_of_nonneg hk0).symm⟩
        have hkn : k < wl.length := by omega
        have hra := rot_len (l := arcs) (k := k)
        have hrw := rot_len (l := wl) (k := k)
        refine r_slot 10 (.int .i64 k) (congrArg (Value.int .i64) hk) ?_
        refine r_region ?_
        refine l_x rfl (x_fieldAddr rfl Try.runUnderlying24 rfl Try.sizeOf3 (by decide)) ?_
        refine l_x rfl (x_load rfl (ld_blk (S6.blk 0 rfl) Try.isAgg3 rfl)) ?_
        refine l_x rfl (x_buildS (out := [_, _]) (ss := [1, 1]) Try.zeroValue24 rfl Try.runUnderlying24 ⟨Try.sizeOf3, Try.sizeOf22, trivial⟩ (fill_cons rfl rfl rfl (Nat.le_of_ble_eq_true rfl) fill_nil)) ?_
        refine l_alloc S6 rfl Try.zeroValue24 rfl ?_
        intro b20 w17 S18 hl19
        refine l_stores (vs := [_, _]) S18 1 rfl rfl rfl rfl (ones_cons rfl (ones_cons rfl ones_nil)) Try.sizeOf24 (by first | exact Nat.le_refl _ | simp) (splice_all rfl) ?_
        intro w21 S22 hk23
        refine l_nil ?_
        refine r_seq ?_
        have Sn := S22.nilvec (E := EA)
        refine r_region ?_
        refine l_x rfl (x_mv rfl) ?_
        refine l_make EI 0 Sn rfl Try.runUnderlying25 Try.sizeOf3 Try.typeInfo3 Try.zeroValue3 rfl rfl rfl rfl (Nat.le_refl _) (by unfold maxLen; omega) (by show _ * 8 ≤ _; omega) ?_
        intro v27 w24 hv28 S25 hl26
        refine l_x rfl (x_as rfl) ?_
        refine l_nil ?_
        refine r_seq ?_
        refine r_seq ?_
        have S29 := S25.pick (L' := [_, _, _, _]) [0, 1, 2, 3] (by decide) rfl
        refine r_forget [(1, vw), (2, .int .i64 i), (4, .pointer (some ⟨b4, 0, none⟩)), (9, .int .i64 wl.length), (10, .int .i64 k), (11, .pointer (some ⟨b20, 0, none⟩)), (12, v27)] ⟨rfl, rfl, rfl, rfl, rfl, rfl, rfl, trivial⟩ ?_
        intro ρ30
        refine r_region ?_
        refine l_x rfl (x_as rfl) ?_
        refine l_nil ?_
        refine r_block ?_
        refine r_loop (G := Nat × Value) (fun ⟨j, vh⟩ => wl.length - j) (fun ⟨j, vh⟩ => [(1, vw), (2, .int .i64 i), (4, .pointer (some ⟨b4, 0, none⟩)), (9, .int .i64 wl.length), (10, .int .i64 k), (11, .pointer (some ⟨b20, 0, none⟩)), (12, v27), (13, .int .i64 j)]) (fun ⟨j, vh⟩ w' => (j ≤ wl.length) ∧ Own nob w w' [blk b4 [.int .i64 N, va] 24, blk b20 [.int .i64 N, vh] 24, vec EA vh ((rot arcs k).take j), vec EI v27 (pre (rot wl k) 0 j)]) (0, .slice none 0 0) ⟨rfl, rfl, rfl, rfl, rfl, rfl, rfl, rfl, trivial⟩ ⟨Nat.zero_le _, (by rw [List.take_zero, pre_zero, rot_len]; exact S29)⟩ ?_
        rintro ⟨j, vh⟩ ρ w1 ⟨hj, S1⟩ IH
        refine r_seq ?_
        refine r_seq ?_
        refine r_region ?_
        refine l_x rfl (x_mv rfl) ?_
        refine l_x rfl (x_mv rfl) ?_
        refine l_x rfl (x_lss rfl rfl) ?_
        refine l_nil ?_
        refine r_ifd rfl (fun hc68 => ?_) (fun hc68 => ?_)
        · skip
          obtain ⟨a, ha⟩ : ∃ a, (rot arcs k)[j]? = some a := ⟨_, List.getElem?_eq_getElem (by omega)⟩
          obtain ⟨y, hy⟩ : ∃ y, (rot wl k)[j]? = some y := ⟨_, List.getElem?_eq_getElem (by omega)⟩
          have hm0 : 0 ≤ ((j : Int) + (k : Int)) % (wl.length : Int) := Int.emod_nonneg _ (by omega)
          have hq : arcs[(((j : Int) + (k : Int)) % (wl.length : Int)).toNat]? = some a := by rw [rem_cast, Int.toNat_natCast, hwl, ← rot_get (by omega) (by omega), ha]
          have hq2 : wl[(((j : Int) + (k : Int)) % (wl.length : Int)).toNat]? = some y := by rw [rem_cast, Int.toNat_natCast, ← rot_get (by omega) (by omega), hy]
          refine r_skip ?_
          refine r_seq ?_
          refine r_block ?_
          refine r_seq ?_
          refine r_drawE 12 nob Try.mixed (by kernel_rfl) ?_
          intro w31 hl32
          have S33 := S1.step hl32
          refine e_exact 0 _ (by kernel_rfl) rfl rfl (by kernel_rfl) rfl (ex_x rfl (fun w1 h1 => x_fieldAddr rfl Try.runUnderlying24 rfl Try.sizeOf22 (by decide))) ?_
          refine e_exact 1 _ (by kernel_rfl) rfl rfl (by kernel_rfl) rfl (ex_x rfl (fun w1 h1 => x_load rfl (ld_blk ((S33.step h1).blk 1 rfl) Try.isAgg22 rfl))) ?_
          refine e_exact 2 _ (by kernel_rfl) rfl rfl (by kernel_rfl) rfl (ex_x rfl (fun w1 h1 => x_fieldAddr rfl Try.runUnderlying24 rfl Try.sizeOf22 (by decide))) ?_
          refine e_exact 3 _ (by kernel_rfl) rfl rfl (by kernel_rfl) rfl (ex_x rfl (fun w1 h1 => x_load rfl (ld_blk ((S33.step h1).blk 0 rfl) Try.isAgg22 rfl))) ?_
          refine e_exact 4 _ (by kernel_rfl) rfl rfl (by kernel_rfl) rfl (ex_x rfl (fun w1 h1 => x_mv rfl)) ?_
          refine e_exact 5 _ (by kernel_rfl) rfl rfl (by kernel_rfl) rfl (ex_x rfl (fun w1 h1 => x_mv rfl)) ?_
          refine e_exact 6 _ (by kernel_rfl) rfl rfl (by kernel_rfl) rfl (ex_x rfl (fun w1 h1 => x_add rfl rfl (by omega))) ?_
          refine e_exact 7 _ (by kernel_rfl) rfl rfl (by kernel_rfl) rfl (ex_x rfl (fun w1 h1 => x_mv rfl)) ?_
          refine e_exact 8 _ (by kernel_rfl) rfl rfl (by kernel_rfl) rfl (ex_x rfl (fun w1 h1 => x_rem rfl rfl (by omega))) ?_
          refine e_index EA 9 (by kernel_rfl) rfl rfl (by kernel_rfl) rfl rfl (hA.le S33.le) rfl rfl Try.runUnderlying22 Try.sizeOf39 hm0 hq ?_
          intro b34 o35 hat36
          refine e_exact 10 _ (by kernel_rfl) rfl rfl (by kernel_rfl) rfl (ex_x rfl (fun w1 h1 => x_load rfl (ld_row Try.isAgg39 Try.sizeOf39 rfl (rd_row (hA.le (S33.step h1).le) hat36 hq)))) ?_
          refine e_next [11] (by kernel_rfl) (by kernel_rfl) ⟨⟨_, _, rfl, rfl, ?_⟩, trivial⟩
          refine s_buildSlice EA [a] S33 rfl Try.runUnderlying22 Try.sizeOf39 Try.zeroValue39 rfl ⟨rfl, rfl, trivial⟩ (by decide) ?_
          intro v40 w37 S38 hl39
          refine ⟨.of_le hl39, ?_⟩
          refine e_done (by kernel_rfl) ?_
          refine l_append EA S38 2 rfl rfl rfl rfl (vec_rd (S38.at 4 rfl)) Try.underlying22 info39 rfl rfl rfl (by rw [List.length_take, List.length_singleton]; unfold maxLen; omega) (by rw [List.length_take, List.length_singleton]; show _ * 48 ≤ _; omega) ?_
          intro v44 w41 S42 hk43 hv45
          refine l_x rfl (x_fieldAddr rfl Try.runUnderlying24 rfl Try.sizeOf22 (by decide)) ?_
          refine l_storeq (c' := [_, _]) (v := v44) S42 1 rfl rfl rfl rfl (Rd.one (vec_rd (S42.at 2 rfl))) Try.sizeOf22 (by simp) rfl ?_
          intro w46 S47 hk48
          refine l_nil ?_
          refine r_region ?_
          refine l_x rfl (x_mv rfl) ?_
          refine l_x rfl (x_mv rfl) ?_
          refine l_x rfl (x_mv rfl) ?_
          refine l_x rfl (x_mv rfl) ?_
          refine l_x rfl (x_mv rfl) ?_
          refine l_x rfl (x_add rfl rfl (by omega)) ?_
          refine l_x rfl (x_mv rfl) ?_
          refine l_x rfl (x_rem rfl rfl (by omega)) ?_
          refine l_index EI rfl (Hwl.le S47.le) rfl rfl Try.runUnderlying25 Try.sizeOf3 hm0 hq2 ?_
          intro b49 o50 hat51 row52
          refine l_x rfl (x_load rfl (ld_cell Try.isAgg3 (row52 0 _ rfl))) ?_
          refine l_index EI rfl (vec_rd (S47.at 3 rfl)) rfl rfl Try.runUnderlying25 Try.sizeOf3 (by omega) (pre_get (by omega)) ?_
          intro b53 o54 hat55 row56
          refine l_storevi (f := 0) S47 3 rfl rfl hat55 rfl rfl Try.sizeOf3 (pre_get (by omega)) (by decide) rfl ?_
          intro w57 S58 hk59
          refine l_nil ?_
          refine r_inBlock ?_
          refine r_region ?_
          refine l_x rfl (x_mv rfl) ?_
          refine l_x rfl (x_add rfl rfl (by omega)) ?_
          refine l_x rfl (x_as rfl) ?_
          refine l_nil ?_
          exact IH (j + 1, v44) _ _ (by dsimp only; omega) ⟨rfl, rfl, rfl, rfl, rfl, rfl, rfl, rfl, trivial⟩ ⟨by omega, (by rw [take_one ha, ← pre_step hy]; exact S58.take 4)⟩
        · skip
          have hjn : j = wl.length := by omega
          refine r_exit rfl ?_
          refine r_seq ?_
          have S60 := S1.pick (L' := [_, _, _, _]) [0, 1, 2, 3] (by decide) rfl
          refine r_forget [(1, vw), (2, .int .i64 i), (4, .pointer (some ⟨b4, 0, none⟩)), (9, .int .i64 wl.length), (10, .int .i64 k), (11, .pointer (some ⟨b20, 0, none⟩)), (12, v27)] ⟨rfl, rfl, rfl, rfl, rfl, rfl, rfl, trivial⟩ ?_
          intro ρ61
          have e1 : (rot arcs k).take j = rot arcs k := List.take_of_length_le (by omega)
          have e2 : pre (rot wl k) 0 j = rot wl k := pre_all (by omega)
          have Sf := S60
          rw [e1, e2] at Sf
          refine r_region ?_
          refine l_x rfl (x_load rfl (ld_blks (Sf.blk 0 rfl) Try.isAgg24 Try.sizeOf24 rfl rfl)) ?_
          refine l_x rfl (x_mv rfl) ?_
          refine l_call [] [] [_, _] rfl rfl Try.call22 rfl (c_Greatest _ _ _ _ _ (by first | omega | (rw [unit_length]; omega) | (rw [List.length_map]; omega) | decide) _ (hA.le Sf.le) (Hwl.le Sf.le)) ?_
          rintro _ w62 ⟨n9962, vx9962, x9962, vp9962, p9962, e9962, rfl, hO9962, hR9962⟩
          have S63 := Sf.join hO9962
          have hb9962 := hR9962.bd
          have hRG := hR9962
          refine l_x rfl (x_mv rfl) ?_
          refine l_x rfl (x_extract rfl rfl) ?_
          refine l_x rfl (x_extract rfl rfl) ?_
          refine l_x rfl (x_extract rfl rfl) ?_
          refine l_x rfl (x_extract rfl rfl) ?_
          refine l_x rfl (x_as rfl) ?_
          refine l_x rfl (x_as rfl) ?_
          refine l_x rfl (x_as rfl) ?_
          refine l_x rfl (x_as rfl) ?_
          refine l_nil ?_
          refine r_seq ?_
          refine r_region ?_
          refine l_x rfl (x_load rfl (ld_blks (S63.blk 1 rfl) Try.isAgg24 Try.sizeOf24 rfl rfl)) ?_
          refine l_x rfl (x_mv rfl) ?_
          refine l_call [] [] [_, _] rfl rfl Try.call22 rfl (c_Greatest _ _ _ _ _ (by first | omega | (rw [unit_length]; omega) | (rw [List.length_map]; omega) | decide) _ (vec_rd (S63.at 2 rfl)) (vec_rd (S63.at 3 rfl))) ?_
          rintro _ w64 ⟨n10764, vx10764, x10764, vp10764, p10764, e10764, rfl, hO10764, hR10764⟩
          have S65 := S63.join hO10764
          obtain ⟨rfl, rfl⟩ := hRG.turn (by omega) hR10764
          refine l_x rfl (x_mv rfl) ?_
          refine l_x rfl (x_extract rfl rfl) ?_
          refine l_x rfl (x_extract rfl rfl) ?_
          refine l_x rfl (x_extract rfl rfl) ?_
          refine l_x rfl (x_extract rfl rfl) ?_
          refine l_x rfl (x_as rfl) ?_
          refine l_x rfl (x_as rfl) ?_
          refine l_x rfl (x_as rfl) ?_
          refine l_x rfl (x_as rfl) ?_
          refine l_nil ?_
          refine r_seq ?_
          have S66 := S65.pick (L' := [_, _, _, _]) [0, 1, 2, 3] (by decide) rfl
          refine r_forget [(1, vw), (2, .int .i64 i), (4, .pointer (some ⟨b4, 0, none⟩)), (9, .int .i64 wl.length), (10, .int .i64 k), (11, .pointer (some ⟨b20, 0, none⟩)), (12, v27), (14, .int .i64 n9962), (17, .int .i64 e9962), (18, .int .i64 n9962), (21, .int .i64 e9962)] ⟨rfl, rfl, rfl, rfl, rfl, rfl, rfl, rfl, rfl, rfl, rfl, trivial⟩ ?_
          intro ρ67
          refine r_region ?_
          refine l_x rfl (x_load rfl (ld_blks (S66.blk 0 rfl) Try.isAgg24 Try.sizeOf24 rfl rfl)) ?_
          refine l_x rfl (x_mv rfl) ?_
          refine l_call [] [] [_, _] rfl rfl Try.call42 rfl (c_Least _ _ _ _ _ (by first | omega | (rw [unit_length]; omega) | (rw [List.length_map]; omega) | decide) _ (hA.le S66.le) (Hwl.le S66.le)) ?_
          rintro _ w68 ⟨n11568, vx11568, x11568, vp11568, p11568, e11568, rfl, hO11568, hR11568⟩
          have S69 := S66.join hO11568
          have hRL := hR11568
          refine l_x rfl (x_mv rfl) ?_
          refine l_x rfl (x_extract rfl rfl) ?_
          refine l_x rfl (x_extract rfl rfl) ?_
          refine l_x rfl (x_extract rfl rfl) ?_
          refine l_x rfl (x_extract rfl rfl) ?_
          refine l_x rfl (x_as rfl) ?_
          refine l_x rfl (x_as rfl) ?_
          refine l_x rfl (x_as rfl) ?_
          refine l_x rfl (x_as rfl) ?_
          refine l_nil ?_
          refine r_seq ?_
          refine r_region ?_
          refine l_x rfl (x_load rfl (ld_blks (S69.blk 1 rfl) Try.isAgg24 Try.sizeOf24 rfl rfl)) ?_
          refine l_x rfl (x_mv rfl) ?_
          refine l_call [] [] [_, _] rfl rfl Try.call42 rfl (c_Least _ _ _ _ _ (by first | omega | (rw [unit_length]; omega) | (rw [List.length_map]; omega) | decide) _ (vec_rd (S69.at 2 rfl)) (vec_rd (S69.at 3 rfl))) ?_
          rintro _ w70 ⟨n12370, vx12370, x12370, vp12370, p12370, e12370, rfl, hO12370, hR12370⟩
          have S71 := S69.join hO12370
          have hq9 := hR12370
          rw [rot_map] at hq9
          obtain ⟨hn9, rfl⟩ := hRL.turn (by omega) hq9
          obtain rfl := Int.neg_inj.1 hn9
          refine l_x rfl (x_mv rfl) ?_
          refine l_x rfl (x_extract rfl rfl) ?_
          refine l_x rfl (x_extract rfl rfl) ?_
          refine l_x rfl (x_extract rfl rfl) ?_
          refine l_x rfl (x_extract rfl rfl) ?_
          refine l_x rfl (x_as rfl) ?_
          refine l_x rfl (x_as rfl) ?_
          refine l_x rfl (x_as rfl) ?_
          refine l_x rfl (x_as rfl) ?_
          refine l_nil ?_
          refine r_seq ?_
          refine r_seq ?_
          have S72 := S71.pick (L' := [_, _, _, _]) [0, 1, 2, 3] (by decide) rfl
          refine r_forget [(1, vw), (2, .int .i64 i), (4, .pointer (some ⟨b4, 0, none⟩)), (9, .int .i64 wl.length), (10, .int .i64 k), (11, .pointer (some ⟨b20, 0, none⟩)), (12, v27), (14, .int .i64 n9962), (17, .int .i64 e9962), (18, .int .i64 n9962), (21, .int .i64 e9962), (22, .int .i64 n11568), (25, .int .i64 e11568), (26, .int .i64 n11568), (29, .int .i64 e11568)] ⟨rfl, rfl, rfl, rfl, rfl, rfl, rfl, rfl, rfl, rfl, rfl, rfl, rfl, rfl, rfl, trivial⟩ ?_
          intro ρ73
          refine r_region ?_
          refine l_x rfl (x_mv rfl) ?_
          refine l_x rfl (x_mv rfl) ?_
          refine l_x rfl (x_neq rfl rfl) ?_
          refine l_x rfl (x_mv rfl) ?_
          refine l_splitd (d := 131) rfl (fun hg131 => ?_) (fun hg131 => ?_)
          · exact absurd rfl hg131
          · skip
            refine l_x rfl (x_mv rfl) ?_
            refine l_x rfl (x_mv rfl) ?_
            refine l_x rfl (x_neq rfl rfl) ?_
            refine l_x rfl (x_pick_f rfl rfl) ?_
            refine l_x rfl (x_mv rfl) ?_
            refine l_splitd (d := 136) rfl (fun hg136 => ?_) (fun hg136 => ?_)
            · exact absurd rfl hg136
            · skip
              refine l_x rfl (x_mv rfl) ?_
              refine l_x rfl (x_mv rfl) ?_
              refine l_x rfl (x_neq rfl rfl) ?_
              refine l_x rfl (x_pick_f rfl rfl) ?_
              refine l_x rfl (x_mv rfl) ?_
              refine l_splitd (d := 141) rfl (fun hg141 => ?_) (fun hg141 => ?_)
              · exact absurd rfl hg141
              · skip
                refine l_x rfl (x_mv rfl) ?_
                refine l_x rfl (x_mv rfl) ?_
                refine l_x rfl (x_neq rfl rfl) ?_
                refine l_x rfl (x_pick_f rfl rfl) ?_
                refine l_nil ?_
                refine r_ifd rfl (fun hc145 => ?_) (fun hc145 => ?_)
                · exact absurd rfl hc145
                · skip
                  refine r_skip ?_
                  refine r_seq ?_
                  refine r_seq ?_
                  refine r_region ?_
                  refine l_x rfl (x_mv rfl) ?_
                  refine l_x rfl (x_lss rfl rfl) ?_
                  refine l_x rfl (x_mv rfl) ?_
                  refine l_splitd (d := 148) rfl (fun hg148 => ?_) (fun hg148 => ?_)
                  · skip
                    refine l_pass rfl ?_
                    refine l_pass rfl ?_
                    refine l_pass rfl ?_
                    refine l_x rfl (x_pick_t rfl rfl) ?_
                    refine l_nil ?_
                    refine r_true rfl ?_
                    refine r_seq ?_
                    refine r_region ?_
                    refine l_call [] [] [] rfl rfl Try.call19 rfl (c_flowing _) ?_
                    rintro _ w74 ⟨rfl, hl76⟩
                    have S75 := S72.step hl76
                    refine l_x rfl (x_as rfl) ?_
                    refine l_nil ?_
                    refine r_ret (rs := [.tmp 8]) [_] Try.func7 rfl ⟨rfl, trivial⟩ ?_
                    exact ⟨rfl, S75.le⟩
                  · skip
                    refine l_x rfl (x_mv rfl) ?_
                    refine l_x rfl (x_mv rfl) ?_
                    refine l_x rfl (x_geq rfl rfl) ?_
                    refine l_x rfl (x_pick_f rfl rfl) ?_
                    refine l_nil ?_
                    refine r_ifd rfl (fun hc152 => ?_) (fun hc152 => ?_)
                    · skip
                      refine r_seq ?_
                      refine r_region ?_
                      refine l_call [] [] [] rfl rfl Try.call19 rfl (c_flowing _) ?_
                      rintro _ w77 ⟨rfl, hl79⟩
                      have S78 := S72.step hl79
                      refine l_x rfl (x_as rfl) ?_
                      refine l_nil ?_
                      refine r_ret (rs := [.tmp 8]) [_] Try.func7 rfl ⟨rfl, trivial⟩ ?_
                      exact ⟨rfl, S78.le⟩
                    · skip
                      obtain ⟨i', hi'⟩ : ∃ i' : Nat, i = i' := ⟨i.toNat, by omega⟩
                      refine r_skip ?_
                      refine r_seq ?_
                      have S80 := S72.pick (L' := [_, _, _]) [0, 1, 2] (by decide) rfl
                      refine r_forget [(2, .int .i64 i), (4, .pointer (some ⟨b4, 0, none⟩)), (9, .int .i64 wl.length), (10, .int .i64 k), (11, .pointer (some ⟨b20, 0, none⟩))] ⟨rfl, rfl, rfl, rfl, rfl, trivial⟩ ?_
                      intro ρ81
                      refine r_region ?_
                      refine l_x rfl (x_load rfl (ld_blks (S80.blk 0 rfl) Try.isAgg24 Try.sizeOf24 rfl rfl)) ?_
                      refine l_x rfl (x_mv rfl) ?_
                      refine l_call [] [] [_, _] rfl rfl Try.call23 rfl (c_Range _ _ _ _ _ (hA.le S80.le)) ?_
                      rintro _ w82 ⟨lo15782, hi15782, e15782, rfl, hl15782, hR15782⟩
                      have S83 := S80.step hl15782
                      have hRA := hR15782
                      rw [hi'] at hRA
                      refine l_x rfl (x_mv rfl) ?_
                      refine l_x rfl (x_extract rfl rfl) ?_
                      refine l_x rfl (x_extract rfl rfl) ?_
                      refine l_x rfl (x_extract rfl rfl) ?_
                      refine l_x rfl (x_as rfl) ?_
                      refine l_x rfl (x_as rfl) ?_
                      refine l_x rfl (x_as rfl) ?_
                      refine l_nil ?_
                      refine r_seq ?_
                      have hsp := spot_cast (n := wl.length) hi' (by omega : k ≤ wl.length)
                      refine r_drawE 16 nob Try.mixed (by kernel_rfl) ?_
                      intro w84 hl85
                      have S86 := S83.step hl85
                      refine e_exact 0 _ (by kernel_rfl) rfl rfl (by kernel_rfl) rfl (ex_x rfl (fun w1 h1 => x_load rfl (ld_blks ((S86.step h1).blk 1 rfl) Try.isAgg24 Try.sizeOf24 rfl rfl))) ?_
                      refine e_exact 1 _ (by kernel_rfl) rfl rfl (by kernel_rfl) rfl (ex_x rfl (fun w1 h1 => x_mv rfl)) ?_
                      refine e_exact 2 _ (by kernel_rfl) rfl rfl (by kernel_rfl) rfl (ex_x rfl (fun w1 h1 => x_mv rfl)) ?_
                      refine e_exact 3 _ (by kernel_rfl) rfl rfl (by kernel_rfl) rfl (ex_x rfl (fun w1 h1 => x_add rfl rfl (by omega))) ?_
                      refine e_exact 4 _ (by kernel_rfl) rfl rfl (by kernel_rfl) rfl (ex_x rfl (fun w1 h1 => x_mv rfl)) ?_
                      refine e_exact 5 _ (by kernel_rfl) rfl rfl (by kernel_rfl) rfl (ex_x rfl (fun w1 h1 => x_sub rfl rfl (by omega))) ?_
                      refine e_exact 6 _ (by kernel_rfl) rfl rfl (by kernel_rfl) rfl (ex_x rfl (fun w1 h1 => x_mv rfl)) ?_
                      refine e_exact 7 _ (by kernel_rfl) rfl rfl (by kernel_rfl) rfl (ex_x rfl (fun w1 h1 => x_rem rfl rfl (by omega))) ?_
                      refine e_next [8] (by kernel_rfl) (by kernel_rfl) ⟨⟨_, _, rfl, rfl, ?_⟩, trivial⟩
                      refine s_callf [] [] [_, _] rfl rfl Try.call23 rfl ((c_Range _ _ _ _ _ (vec_rd (S86.at 2 rfl))).mono ?_)
                      rintro _ w87 ⟨lo17087, hi17087, e17087, rfl, hl17087, hR17087⟩
                      have S88 := S86.step hl17087
                      refine ⟨.of_le hl17087, ?_⟩
                      have hRB := hR17087
                      rw [hsp, hwl] at hRB
                      obtain ⟨rfl, rfl, rfl⟩ := hRA.turn (by omega) (by omega) hRB
                      refine e_exact 9 _ (by kernel_rfl) rfl rfl (by kernel_rfl) rfl (ex_x rfl (fun w1 h1 => x_mv rfl)) ?_
                      refine e_exact 10 _ (by kernel_rfl) rfl rfl (by kernel_rfl) rfl (ex_x rfl (fun w1 h1 => x_extract rfl rfl)) ?_
                      refine e_exact 11 _ (by kernel_rfl) rfl rfl (by kernel_rfl) rfl (ex_x rfl (fun w1 h1 => x_extract rfl rfl)) ?_
                      refine e_exact 12 _ (by kernel_rfl) rfl rfl (by kernel_rfl) rfl (ex_x rfl (fun w1 h1 => x_extract rfl rfl)) ?_
                      refine e_exact 13 _ (by kernel_rfl) rfl rfl (by kernel_rfl) rfl (ex_x rfl (fun w1 h1 => x_as rfl)) ?_
                      refine e_exact 14 _ (by kernel_rfl) rfl rfl (by kernel_rfl) rfl (ex_x rfl (fun w1 h1 => x_as rfl)) ?_
                      refine e_exact 15 _ (by kernel_rfl) rfl rfl (by kernel_rfl) rfl (ex_x rfl (fun w1 h1 => x_as rfl)) ?_
                      refine e_done (by kernel_rfl) ?_
                      refine l_nil ?_
                      refine r_seq ?_
                      refine r_region ?_
                      refine l_call [] [] [] rfl rfl Try.call19 rfl (c_flowing _) ?_
                      rintro _ w89 ⟨rfl, hl91⟩
                      have S90 := S88.step hl91
                      refine l_x rfl (x_mv rfl) ?_
                      refine l_x rfl (x_mv rfl) ?_
                      refine l_x rfl (x_mv rfl) ?_
                      refine l_x rfl (x_eql rfl rfl) ?_
                      refine l_x rfl (x_pick_t rfl rfl) ?_
                      refine l_x rfl (x_mv rfl) ?_
                      refine l_splitd (d := 180) rfl (fun hg180 => ?_) (fun hg180 => ?_)
                      · skip
                        refine l_x rfl (x_mv rfl) ?_
                        refine l_x rfl (x_mv rfl) ?_
                        refine l_x rfl (x_eql rfl rfl) ?_
                        refine l_x rfl (x_pick_t rfl rfl) ?_
                        refine l_x rfl (x_mv rfl) ?_
                        refine l_splitd (d := 185) rfl (fun hg185 => ?_) (fun hg185 => ?_)
                        · skip
                          refine l_x rfl (x_mv rfl) ?_
                          refine l_x rfl (x_mv rfl) ?_
                          refine l_x rfl (x_eql rfl rfl) ?_
                          refine l_x rfl (x_pick_t rfl rfl) ?_
                          refine l_x rfl (x_as rfl) ?_
                          refine l_nil ?_
                          refine r_ret (rs := [.tmp 8]) [_] Try.func7 rfl ⟨rfl, trivial⟩ ?_
                          exact ⟨congrArg Value.bool (decide_eq_true (by rfl)), S90.le⟩
                        · exact absurd rfl hg185
                      · exact absurd rfl hg180

end Go.Proofs

/-
  The statement of FlowOrder: for every input the law returns true, and its arguments read as they did. No condition.
-/
namespace Go.Proofs
open Go Go.Vk Go.Vk.Flow

open Go.ChangeShapes Go.WideShapes Go.RowKit Go.Joins
namespace Ytddapgjjndbejaa
set_option maxRecDepth 100000 in
theorem liftedOrder (os : Os) (started : os.Started) (H : Type) (enc : TypeId × Value → H) :
    ReturnsInHanded {} Try.checked os 7 .any (Rows.flowOrderSpec.pre6 enc Try.prog Try.f7 Rows.flowOrderRow.domain false) (Rows.flowOrderSpec.post enc Try.prog Try.f7 false true false false) := by
  refine returnsInHanded_of_change (C := Try.checked) ownT started (by kernel_rfl) Try.func7
    (ChangeSpec.witness6 (enc := enc) (C := Try.checked) false ⟨#[], #[.agg #[.int .i64 0, .slice none 0 0], .slice none 0 0, .int .i64 0, .int .i64 0], []⟩ 8 (by kernel_rfl) (by kernel_rfl) (by kernel_rfl) (by kernel_rfl)) ?_
  intro W base args ds gs before hval0 hW hcnd _
  have hval : ∀ (j : Nat) t v, Try.f7.params[j]? = some t → args[j]? = some v → Value.okWide Try.prog W .any base t v := hval0
  have hW' := hW
  obtain ⟨p, q, hA0, hV, rfl, hfz, hnd⟩ := hW
  have hA : DataW.TrodAll enc Try.prog W 0 (fun _ => true) true Try.f7.params.toList args.toList ds p := hA0
  rw [Try.params7] at hA hval
  obtain ⟨v0, vs0, d0, ds0, p0, q0, hargs, rfl, rfl, h0, r0⟩ := trodAll_cons hA
  obtain ⟨v1, vs1, d1, ds1, p1, q1, rfl, rfl, rfl, h1, r1⟩ := trodAll_cons r0
  obtain ⟨v2, vs2, d2, ds2, p2, q2, rfl, rfl, rfl, h2, r2⟩ := trodAll_cons r1
  obtain ⟨v3, vs3, d3, ds3, p3, q3, rfl, rfl, rfl, h3, r3⟩ := trodAll_cons r2
  obtain ⟨rfl, rfl, rfl⟩ := trodAll_nil r3
  obtain rfl : args = #[v0, v1, v2, v3] := by cases args; simp_all
  obtain ⟨rfl, rfl⟩ := trodVars_none hV
  obtain ⟨N0, va0, arcs0, rfl, hQ0, hm0⟩ := openNet (hval 0 24 v0 rfl rfl) h0
  obtain ⟨l1, hQ1, hm1⟩ := openInts (hval 1 25 v1 rfl rfl) h1
  obtain ⟨i2, rfl, rfl, rfl, w2⟩ := open_int Try.underlying3 (hval 2 3 v2 rfl rfl) h2
  obtain ⟨i3, rfl, rfl, rfl, w3⟩ := open_int Try.underlying3 (hval 3 3 v3 rfl rfl) h3
  clear hA0 hval0
  exact (lawOrder N0 va0 arcs0 _ l1 i2 i3 W hQ0 hQ1).mono fun v W' ⟨hv, hle⟩ => by
    subst hv
    exact post_law hW' laidT (by rw [Try.params7]; exact fun t ht => by revert t; decide +kernel) (by kernel_rfl) Try.underlying4 rfl rfl rfl rfl hle
/-- FlowOrder: whatever the input, the law returns true, and its arguments read as they did. -/
theorem flowOrder : Rows.FlowOrderSaid :=
  OpenClaim.holds_of_wide 7 Try.f7 rfl rfl rfl rfl rfl rfl rfl ⟨rfl, rfl, rfl, rfl, rfl⟩ rfl rfl rfl rfl rfl (by kernel_rfl) Try.func7 (by kernel_rfl)
    (of_decide_eq_true (by kernel_rfl)) (by unfold Func.isWrapper; rw [if_neg (of_decide_eq_false (by kernel_rfl))]; exact ⟨rfl, rfl⟩)
    (fun os started H enc _ => liftedOrder os started H enc)
#print axioms flowOrder
end Ytddapgjjndbejaa

end Go.Proofs
