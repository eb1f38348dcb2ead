/-
  The statement of FlowMemory: for every input the law returns true, and its arguments read as they did. No condition.
-/
import Derived.Test.YtddapgjjndbejaaKg
/-
  Contracts of functions of the program: each by symbolic execution of its text.
-/
namespace Go.Proofs
open Go Go.Vk Go.Vk.Flow

set_option maxHeartbeats 4000000 in
/-- couchant/couchantlaw06.FlowMemory. -/
theorem lawMemory (N : Int) (va : Value) (arcs : List Arc) (vw : Value) (wl : List Int) (i : Int) (w : World) (hA : Rd EA w va arcs) (Hwl : Rd EI w vw wl) :
    Cl Try.prog 4 #[.agg #[.int .i64 N, va], vw, .int .i64 i] w fun v w' => v = .bool true ∧ Le w w' := by
  refine fn_of_run (args := [_, _, _]) 127 Try.func4 rfl rfl rfl fun cs => ?_
  have S := Own.start (X := nob) w
  refine r_seq ?_
  refine r_region ?_
  refine l_box S rfl rfl ?_
  intro b4 w1 S2 hl3
  refine l_x rfl (x_as rfl) ?_
  refine l_nil ?_
  refine r_seq ?_
  refine r_seq ?_
  refine r_region ?_
  refine l_x rfl (x_load rfl (ld_blks (S2.blk 0 rfl) Try.isAgg24 Try.sizeOf24 rfl rfl)) ?_
  refine l_call [] [] [_] rfl rfl Try.call18 rfl (c_small _ _ _ _ (hA.le S2.le)) ?_
  rintro _ w5 ⟨rfl, hl7⟩
  have S6 := S2.step hl7
  refine l_x rfl (x_not rfl) ?_
  refine l_x rfl (x_mv rfl) ?_
  refine l_split (d := 26) rfl (fun hg26 => ?_) (fun hg26 => ?_)
  · skip
    refine l_pass rfl ?_
    refine l_pass rfl ?_
    refine l_pass rfl ?_
    refine l_x rfl (x_pick_t rfl rfl) ?_
    refine l_nil ?_
    refine r_true rfl ?_
    refine r_seq ?_
    refine r_region ?_
    refine l_call [] [] [] rfl rfl Try.call19 rfl (c_flowing _) ?_
    rintro _ w8 ⟨rfl, hl10⟩
    have S9 := S6.step hl10
    refine l_x rfl (x_as rfl) ?_
    refine l_nil ?_
    refine r_ret (rs := [.tmp 6]) [_] Try.func4 rfl ⟨rfl, trivial⟩ ?_
    exact ⟨rfl, S9.le⟩
  · skip
    refine l_x rfl (x_mv rfl) ?_
    refine l_x rfl (x_len (Hwl.le S6.le) rfl Try.runUnderlying25) ?_
    refine l_x rfl (x_gtr rfl rfl) ?_
    refine l_x rfl (x_pick_f rfl rfl) ?_
    refine l_nil ?_
    refine r_ifd rfl (fun hc30 => ?_) (fun hc30 => ?_)
    · skip
      refine r_seq ?_
      refine r_region ?_
      refine l_call [] [] [] rfl rfl Try.call19 rfl (c_flowing _) ?_
      rintro _ w11 ⟨rfl, hl13⟩
      have S12 := S6.step hl13
      refine l_x rfl (x_as rfl) ?_
      refine l_nil ?_
      refine r_ret (rs := [.tmp 6]) [_] Try.func4 rfl ⟨rfl, trivial⟩ ?_
      exact ⟨rfl, S12.le⟩
    · skip
      refine r_skip ?_
      refine r_seq ?_
      have hLs := smallB_le (N := N) (n := arcs.length) (by simpa using hg26)
      refine r_drawE 8 (yng w5) Try.mixed (by kernel_rfl) ?_
      intro w14 hl15
      have S16 := S6.step hl15
      have hy17 : Keep (yng w5) w5 w14 := .of_le hl15
      refine e_exact 0 _ (by kernel_rfl) rfl rfl (by kernel_rfl) rfl (ex_x rfl (fun w1 h1 => x_fieldAddr rfl Try.runUnderlying24 rfl Try.sizeOf3 (by decide))) ?_
      refine e_exact 1 _ (by kernel_rfl) rfl rfl (by kernel_rfl) rfl (ex_x rfl (fun w1 h1 => x_load rfl (ld_blk ((S6.yng (hy17.trans h1)).blk 0 rfl) Try.isAgg3 rfl))) ?_
      refine e_exact 3 _ (by kernel_rfl) rfl rfl (by kernel_rfl) rfl (ex_x rfl (fun w1 h1 => x_fieldAddr rfl Try.runUnderlying24 rfl Try.sizeOf22 (by decide))) ?_
      refine e_exact 4 _ (by kernel_rfl) rfl rfl (by kernel_rfl) rfl (ex_x rfl (fun w1 h1 => x_load rfl (ld_blk ((S6.yng (hy17.trans h1)).blk 0 rfl) Try.isAgg22 rfl))) ?_
      refine e_next [2, 7] (by kernel_rfl) (by kernel_rfl) ⟨⟨_, _, rfl, rfl, ?_⟩, ⟨_, _, rfl, rfl, ?_⟩, trivial⟩
      · skip
        refine s_buildSlice EA [] (Own.start (X := nob) w14) rfl Try.runUnderlying22 Try.sizeOf39 Try.zeroValue39 rfl trivial (by decide) ?_
        intro v22 w18 S19 hl21
        have hn23 := S19.new 0 rfl
        have S20 := S16.add hl21 hn23
        refine ⟨.of_le hl21, ?_⟩
        have hy24 : Keep (yng w5) w5 w18 := hy17.trans (Keep.of_le hl21)
        refine e_next [5, 7] (by kernel_rfl) (by kernel_rfl) ⟨⟨_, _, rfl, rfl, ?_⟩, ⟨_, _, rfl, rfl, ?_⟩, trivial⟩
        · skip
          refine s_append EA (S20.lend 1 rfl) 0 rfl rfl rfl rfl (hA.le S20.le) Try.underlying22 info39 rfl rfl rfl (by unfold maxLen; rw [List.length_nil]; omega) (by show _ * 48 ≤ _; rw [List.length_nil]; omega) ?_
          intro v29 w25 S26 hk28 hv30
          have S27 := S20.back 1 rfl S26
          refine ⟨hk28.mono (fun c _ hc => Nat.le_trans hy17.size (hn23.bd c hc).1), ?_⟩
          have hy31 : Keep (yng w5) w5 w25 := hy24.trans (hk28.mono (fun c _ hc => Nat.le_trans hy17.size (hn23.bd c hc).1))
          refine e_exact 6 _ (by kernel_rfl) rfl rfl (by kernel_rfl) rfl (ex_x rfl (fun w1 h1 => x_buildS (out := [_, _]) (ss := [1, 1]) Try.zeroValue24 rfl Try.runUnderlying24 ⟨Try.sizeOf3, Try.sizeOf22, trivial⟩ (fill_cons rfl rfl rfl (Nat.le_of_ble_eq_true rfl) (fill_cons rfl (Rd.cells (vec_rd (S27.at 1 rfl))) rfl (Nat.le_of_ble_eq_true rfl) fill_nil)))) ?_
          refine e_next [7] (by kernel_rfl) (by kernel_rfl) ⟨⟨_, _, rfl, rfl, ?_⟩, trivial⟩
          refine s_allocY S27 rfl Try.zeroValue24 rfl ?_
          intro b35 w32 S33 hl34 hb36
          refine ⟨.of_le hl34, ?_⟩
          have hy37 : Keep (yng w5) w5 w32 := hy31.trans (Keep.of_le hl34)
          refine e_done (by kernel_rfl) ?_
          refine l_stores (vs := [_, _]) S33 2 rfl rfl rfl rfl (ones_cons rfl (ones_cons (Rd.one (vec_rd (S33.at 1 rfl))) ones_nil)) Try.sizeOf24 (by first | exact Nat.le_refl _ | simp) (splice_all rfl) ?_
          intro w38 S39 hk40
          refine l_nil ?_
          refine r_seq ?_
          have S41 := S39.pick (L' := [_, _, _]) [0, 1, 2] (by decide) rfl
          refine r_forget [(1, vw), (2, .int .i64 i), (3, .pointer (some ⟨b4, 0, none⟩)), (7, .pointer (some ⟨b35, 0, none⟩))] ⟨rfl, rfl, rfl, rfl, trivial⟩ ?_
          intro ρ42
          refine r_region ?_
          refine l_x rfl (x_load rfl (ld_blks (S41.blk 0 rfl) Try.isAgg24 Try.sizeOf24 rfl rfl)) ?_
          refine l_x rfl (x_mv rfl) ?_
          refine l_call [] [] [_, _] rfl rfl Try.call22 rfl (c_Greatest _ _ _ _ _ (by first | omega | (rw [unit_length]; omega) | (rw [List.length_map]; omega) | decide) _ (hA.le S41.le) (Hwl.le S41.le)) ?_
          rintro _ w43 ⟨n4243, vx4243, x4243, vp4243, p4243, e4243, rfl, hO4243, hR4243⟩
          have S44 := S41.join hO4243
          have hb4243 := hR4243.bd
          have hR1 := hR4243
          have hln := hR4243.len
          refine l_x rfl (x_mv rfl) ?_
          refine l_x rfl (x_extract rfl rfl) ?_
          refine l_x rfl (x_extract rfl rfl) ?_
          refine l_x rfl (x_extract rfl rfl) ?_
          refine l_x rfl (x_extract rfl rfl) ?_
          refine l_x rfl (x_as rfl) ?_
          refine l_x rfl (x_as rfl) ?_
          refine l_x rfl (x_as rfl) ?_
          refine l_x rfl (x_as rfl) ?_
          refine l_nil ?_
          refine r_seq ?_
          refine r_seq ?_
          refine r_region ?_
          refine l_x rfl (x_as rfl) ?_
          refine l_nil ?_
          refine r_block ?_
          refine r_loop (G := Nat × List Int) (fun ⟨j, la⟩ => la.length - j) (fun ⟨j, la⟩ => [(1, vw), (2, .int .i64 i), (3, .pointer (some ⟨b4, 0, none⟩)), (7, .pointer (some ⟨b35, 0, none⟩)), (8, .int .i64 n4243), (11, .int .i64 e4243), (9, vx4243), (10, vp4243), (12, .int .i64 j)]) (fun ⟨j, la⟩ w' => (j ≤ la.length) ∧ (la.length = (x4243).length) ∧ Own nob w w' [blk b4 [.int .i64 N, va] 24, vec EA v29 arcs, blk b35 [.int .i64 N, v29] 24, vec EI vx4243 la, vec EI vp4243 p4243]) (0, x4243) ⟨rfl, rfl, rfl, rfl, rfl, rfl, rfl, rfl, rfl, trivial⟩ ⟨Nat.zero_le _, rfl, S44⟩ ?_
          rintro ⟨j, la⟩ ρ w1a ⟨hj, hl, S1a⟩ IHa
          refine r_seq ?_
          refine r_seq ?_
          refine r_region ?_
          refine l_x rfl (x_mv rfl) ?_
          refine l_x rfl (x_mv rfl) ?_
          refine l_x rfl (x_len (vec_rd (S1a.at 3 rfl)) rfl Try.runUnderlying25) ?_
          refine l_x rfl (x_lss rfl rfl) ?_
          refine l_nil ?_
          refine r_ifd rfl (fun hc50 => ?_) (fun hc50 => ?_)
          · skip
            refine r_skip ?_
            refine r_seq ?_
            refine r_block ?_
            refine r_region ?_
            refine l_x rfl (x_mv rfl) ?_
            refine l_x rfl (x_mv rfl) ?_
            refine l_index EI rfl (vec_rd (S1a.at 3 rfl)) rfl rfl Try.runUnderlying25 Try.sizeOf3 (by omega) (by first | assumption | exact List.getElem?_eq_getElem (by omega)) ?_
            intro b45 o46 hat47 row48
            refine l_storevi (f := 0) S1a 3 rfl rfl hat47 rfl rfl Try.sizeOf3 (by first | assumption | exact List.getElem?_eq_getElem (by omega)) (by decide) rfl ?_
            intro w49 S50 hk51
            refine l_nil ?_
            refine r_inBlock ?_
            refine r_region ?_
            refine l_x rfl (x_mv rfl) ?_
            refine l_x rfl (x_add rfl rfl (by omega)) ?_
            refine l_x rfl (x_as rfl) ?_
            refine l_nil ?_
            exact IHa (j + 1, la.set j (-7)) _ _ (by dsimp only; rw [List.length_set]; omega) ⟨rfl, rfl, rfl, rfl, rfl, rfl, rfl, rfl, rfl, trivial⟩ ⟨by rw [List.length_set]; omega, by rw [List.length_set]; exact hl, S50⟩
          · skip
            refine r_exit rfl ?_
            refine r_seq ?_
            refine r_seq ?_
            refine r_region ?_
            refine l_x rfl (x_as rfl) ?_
            refine l_nil ?_
            refine r_block ?_
            refine r_loop (G := Nat × List Int) (fun ⟨j, lb⟩ => lb.length - j) (fun ⟨j, lb⟩ => [(1, vw), (2, .int .i64 i), (3, .pointer (some ⟨b4, 0, none⟩)), (7, .pointer (some ⟨b35, 0, none⟩)), (8, .int .i64 n4243), (11, .int .i64 e4243), (10, vp4243), (13, .int .i64 j)]) (fun ⟨j, lb⟩ w' => (j ≤ lb.length) ∧ (lb.length = (p4243).length) ∧ Own nob w w' [blk b4 [.int .i64 N, va] 24, vec EA v29 arcs, blk b35 [.int .i64 N, v29] 24, vec EI vx4243 la, vec EI vp4243 lb]) (0, p4243) ⟨rfl, rfl, rfl, rfl, rfl, rfl, rfl, rfl, trivial⟩ ⟨Nat.zero_le _, rfl, S1a⟩ ?_
            rintro ⟨j, lb⟩ ρ w1b ⟨hj, hl, S1b⟩ IHb
            refine r_seq ?_
            refine r_seq ?_
            refine r_region ?_
            refine l_x rfl (x_mv rfl) ?_
            refine l_x rfl (x_mv rfl) ?_
            refine l_x rfl (x_len (vec_rd (S1b.at 4 rfl)) rfl Try.runUnderlying25) ?_
            refine l_x rfl (x_lss rfl rfl) ?_
            refine l_nil ?_
            refine r_ifd rfl (fun hc59 => ?_) (fun hc59 => ?_)
            · skip
              refine r_skip ?_
              refine r_seq ?_
              refine r_block ?_
              refine r_region ?_
              refine l_x rfl (x_mv rfl) ?_
              refine l_x rfl (x_mv rfl) ?_
              refine l_index EI rfl (vec_rd (S1b.at 4 rfl)) rfl rfl Try.runUnderlying25 Try.sizeOf3 (by omega) (by first | assumption | exact List.getElem?_eq_getElem (by omega)) ?_
              intro b52 o53 hat54 row55
              refine l_storevi (f := 0) S1b 4 rfl rfl hat54 rfl rfl Try.sizeOf3 (by first | assumption | exact List.getElem?_eq_getElem (by omega)) (by decide) rfl ?_
              intro w56 S57 hk58
              refine l_nil ?_
              refine r_inBlock ?_
              refine r_region ?_
              refine l_x rfl (x_mv rfl) ?_
              refine l_x rfl (x_add rfl rfl (by omega)) ?_
              refine l_x rfl (x_as rfl) ?_
              refine l_nil ?_
              exact IHb (j + 1, lb.set j (-7)) _ _ (by dsimp only; rw [List.length_set]; omega) ⟨rfl, rfl, rfl, rfl, rfl, rfl, rfl, rfl, trivial⟩ ⟨by rw [List.length_set]; omega, by rw [List.length_set]; exact hl, S57⟩
            · skip
              refine r_exit rfl ?_
              refine r_seq ?_
              have S59 := S1b.pick (L' := [_, _, _]) [0, 1, 2] (by decide) rfl
              refine r_forget [(1, vw), (2, .int .i64 i), (3, .pointer (some ⟨b4, 0, none⟩)), (7, .pointer (some ⟨b35, 0, none⟩)), (8, .int .i64 n4243), (11, .int .i64 e4243)] ⟨rfl, rfl, rfl, rfl, rfl, rfl, trivial⟩ ?_
              intro ρ60
              refine r_region ?_
              refine l_x rfl (x_load rfl (ld_blks (S59.blk 0 rfl) Try.isAgg24 Try.sizeOf24 rfl rfl)) ?_
              refine l_x rfl (x_mv rfl) ?_
              refine l_call [] [] [_, _, _, _, _] rfl rfl Try.call20 rfl (c_Narrow2 _ _ _ _ _ _ _ _ (hA.le S59.le)) ?_
              rintro _ w61 (⟨vh6861, rfl, hN6861, hl6861, hnE6861⟩ | ⟨vh6861, e6861, rfl, hN6861, hl6861, hnE6861, hn06861⟩)
              · skip
                have S62 := S59.add hl6861 hN6861
                have hnA := hnE6861
                have hnl := nar_len (arcs := arcs) (i := i) (lo := 0) (hi := 1000000) (r := 1)
                refine l_x rfl (x_mv rfl) ?_
                refine l_x rfl (x_extract rfl rfl) ?_
                refine l_x rfl (x_extract rfl rfl) ?_
                refine l_alloc S62 rfl Try.zeroValue24 rfl ?_
                intro b66 w63 S64 hl65
                refine l_stores (vs := [_, _]) S64 4 rfl rfl rfl rfl (ones_cons rfl (ones_cons (Rd.one (vec_rd (S64.at 3 rfl))) ones_nil)) Try.sizeOf24 (by first | exact Nat.le_refl _ | simp) (splice_all rfl) ?_
                intro w67 S68 hk69
                refine l_x rfl (x_as rfl) ?_
                refine l_nil ?_
                refine r_seq ?_
                refine r_seq ?_
                refine r_region ?_
                refine l_x rfl (x_as rfl) ?_
                refine l_nil ?_
                refine r_block ?_
                refine r_loop (G := Nat × List Arc) (fun ⟨j, lc⟩ => lc.length - j) (fun ⟨j, lc⟩ => [(1, vw), (2, .int .i64 i), (3, .pointer (some ⟨b4, 0, none⟩)), (7, .pointer (some ⟨b35, 0, none⟩)), (8, .int .i64 n4243), (11, .int .i64 e4243), (14, .pointer (some ⟨b66, 0, none⟩)), (15, .int .i64 0), (16, .int .i64 j)]) (fun ⟨j, lc⟩ w' => (j ≤ lc.length) ∧ (lc.length = (nar arcs i.toNat 0 1000000 1).length) ∧ Own nob w w' [blk b4 [.int .i64 N, va] 24, vec EA v29 arcs, blk b35 [.int .i64 N, v29] 24, vec EA vh6861 lc, blk b66 [.int .i64 N, vh6861] 24]) (0, nar arcs i.toNat 0 1000000 1) ⟨rfl, rfl, rfl, rfl, rfl, rfl, rfl, rfl, rfl, trivial⟩ ⟨Nat.zero_le _, rfl, S68⟩ ?_
                rintro ⟨j, lc⟩ ρ w1c ⟨hj, hl, S1c⟩ IHc
                refine r_seq ?_
                refine r_seq ?_
                refine r_region ?_
                refine l_x rfl (x_mv rfl) ?_
                refine l_x rfl (x_fieldAddr rfl Try.runUnderlying24 rfl Try.sizeOf22 (by decide)) ?_
                refine l_x rfl (x_load rfl (ld_blk (S1c.blk 4 rfl) Try.isAgg22 rfl)) ?_
                refine l_x rfl (x_len (vec_rd (S1c.at 3 rfl)) rfl Try.runUnderlying22) ?_
                refine l_x rfl (x_lss rfl rfl) ?_
                refine l_nil ?_
                refine r_ifd rfl (fun hc75 => ?_) (fun hc75 => ?_)
                · skip
                  refine r_skip ?_
                  refine r_seq ?_
                  refine r_block ?_
                  refine r_region ?_
                  refine l_x rfl (x_fieldAddr rfl Try.runUnderlying24 rfl Try.sizeOf22 (by decide)) ?_
                  refine l_x rfl (x_load rfl (ld_blk (S1c.blk 4 rfl) Try.isAgg22 rfl)) ?_
                  refine l_x rfl (x_mv rfl) ?_
                  refine l_x rfl (x_buildS (out := [_, _, _, _, _, _]) (ss := [1, 1, 1, 1, 1, 1]) Try.zeroValue39 rfl Try.runUnderlying39 ⟨Try.sizeOf3, Try.sizeOf3, Try.sizeOf3, Try.sizeOf3, Try.sizeOf3, Try.sizeOf3, trivial⟩ (fill_cons rfl rfl rfl (Nat.le_of_ble_eq_true rfl) fill_nil)) ?_
                  refine l_index EA rfl (vec_rd (S1c.at 3 rfl)) rfl rfl Try.runUnderlying22 Try.sizeOf39 (by omega) (by first | assumption | exact List.getElem?_eq_getElem (by omega)) ?_
                  intro b70 o71 hat72 row73
                  refine l_storeva (a' := ⟨-7, 0, 0, 0, 0, 0⟩) S1c 3 rfl rfl hat72 rfl rfl Try.sizeOf39 (by first | assumption | exact List.getElem?_eq_getElem (by omega)) rfl ?_
                  intro w74 S75 hk76
                  refine l_nil ?_
                  refine r_inBlock ?_
                  refine r_region ?_
                  refine l_x rfl (x_mv rfl) ?_
                  refine l_x rfl (x_add rfl rfl (by omega)) ?_
                  refine l_x rfl (x_as rfl) ?_
                  refine l_nil ?_
                  exact IHc (j + 1, lc.set j ⟨-7, 0, 0, 0, 0, 0⟩) _ _ (by dsimp only; rw [List.length_set]; omega) ⟨rfl, rfl, rfl, rfl, rfl, rfl, rfl, rfl, rfl, trivial⟩ ⟨by rw [List.length_set]; omega, by rw [List.length_set]; exact hl, S75⟩
                · skip
                  refine r_exit rfl ?_
                  refine r_seq ?_
                  have S77 := S1c.pick (L' := [_, _, _]) [0, 1, 2] (by decide) rfl
                  refine r_forget [(1, vw), (2, .int .i64 i), (3, .pointer (some ⟨b4, 0, none⟩)), (7, .pointer (some ⟨b35, 0, none⟩)), (8, .int .i64 n4243), (11, .int .i64 e4243), (15, .int .i64 0)] ⟨rfl, rfl, rfl, rfl, rfl, rfl, rfl, trivial⟩ ?_
                  intro ρ78
                  refine r_region ?_
                  refine l_x rfl (x_load rfl (ld_blks (S77.blk 0 rfl) Try.isAgg24 Try.sizeOf24 rfl rfl)) ?_
                  refine l_x rfl (x_mv rfl) ?_
                  refine l_call [] [] [_, _] rfl rfl Try.call22 rfl (c_Greatest _ _ _ _ _ (by first | omega | (rw [unit_length]; omega) | (rw [List.length_map]; omega) | decide) _ (hA.le S77.le) (Hwl.le S77.le)) ?_
                  rintro _ w79 ⟨n8679, vx8679, x8679, vp8679, p8679, e8679, rfl, hO8679, hR8679⟩
                  have S80 := S77.join hO8679
                  have hb8679 := hR8679.bd
                  have hR2 := hR8679
                  refine l_x rfl (x_mv rfl) ?_
                  refine l_x rfl (x_extract rfl rfl) ?_
                  refine l_x rfl (x_extract rfl rfl) ?_
                  refine l_x rfl (x_extract rfl rfl) ?_
                  refine l_x rfl (x_extract rfl rfl) ?_
                  refine l_x rfl (x_as rfl) ?_
                  refine l_x rfl (x_as rfl) ?_
                  refine l_x rfl (x_as rfl) ?_
                  refine l_x rfl (x_as rfl) ?_
                  refine l_nil ?_
                  refine r_seq ?_
                  refine r_region ?_
                  refine l_x rfl (x_load rfl (ld_blks (S80.blk 0 rfl) Try.isAgg24 Try.sizeOf24 rfl rfl)) ?_
                  refine l_x rfl (x_mv rfl) ?_
                  refine l_call [] [] [_, _, _, _, _] rfl rfl Try.call20 rfl (c_Narrow2 _ _ _ _ _ _ _ _ (hA.le S80.le)) ?_
                  rintro _ w81 (⟨vh9481, rfl, hN9481, hl9481, hnE9481⟩ | ⟨vh9481, e9481, rfl, hN9481, hl9481, hnE9481, hn09481⟩)
                  · skip
                    have S82 := S80.add hl9481 hN9481
                    have hnB := hnE9481
                    refine l_x rfl (x_mv rfl) ?_
                    refine l_x rfl (x_extract rfl rfl) ?_
                    refine l_x rfl (x_extract rfl rfl) ?_
                    refine l_alloc S82 rfl Try.zeroValue24 rfl ?_
                    intro b86 w83 S84 hl85
                    refine l_stores (vs := [_, _]) S84 6 rfl rfl rfl rfl (ones_cons rfl (ones_cons (Rd.one (vec_rd (S84.at 5 rfl))) ones_nil)) Try.sizeOf24 (by first | exact Nat.le_refl _ | simp) (splice_all rfl) ?_
                    intro w87 S88 hk89
                    refine l_x rfl (x_as rfl) ?_
                    refine l_nil ?_
                    refine r_seq ?_
                    refine r_region ?_
                    refine l_call [] [] [] rfl rfl Try.call19 rfl (c_flowing _) ?_
                    rintro _ w90 ⟨rfl, hl92⟩
                    have S91 := S88.step hl92
                    refine l_x rfl (x_mv rfl) ?_
                    refine l_x rfl (x_load rfl (ld_blks (S91.blk 0 rfl) Try.isAgg24 Try.sizeOf24 rfl rfl)) ?_
                    refine l_x rfl (x_load rfl (ld_blks (S91.blk 2 rfl) Try.isAgg24 Try.sizeOf24 rfl rfl)) ?_
                    refine l_call [] [] [_, _] rfl rfl Try.call24 rfl (c_SameNet _ _ _ _ _ _ (by first | omega | (have h1 := nar_len (arcs := arcs) (i := i) (lo := 0) (hi := 1000000) (r := 1); omega)) _ (hA.le S91.le) (vec_rd (S91.at 1 rfl))) ?_
                    rintro _ w93 ⟨rfl, hl95⟩
                    have S94 := S91.step hl95
                    refine l_x rfl (x_pick_t rfl rfl) ?_
                    refine l_x rfl (x_mv rfl) ?_
                    refine l_splitd (d := 103) rfl (fun hg103 => ?_) (fun hg103 => ?_)
                    · skip
                      refine l_x rfl (x_mv rfl) ?_
                      refine l_x rfl (x_mv rfl) ?_
                      refine l_x rfl (x_eql rfl rfl) ?_
                      refine l_x rfl (x_pick_t rfl rfl) ?_
                      refine l_x rfl (x_mv rfl) ?_
                      refine l_splitd (d := 108) rfl (fun hg108 => ?_) (fun hg108 => ?_)
                      · skip
                        refine l_x rfl (x_mv rfl) ?_
                        refine l_x rfl (x_mv rfl) ?_
                        refine l_x rfl (x_eql rfl rfl) ?_
                        refine l_x rfl (x_pick_t rfl rfl) ?_
                        refine l_x rfl (x_mv rfl) ?_
                        refine l_splitd (d := 113) rfl (fun hg113 => ?_) (fun hg113 => ?_)
                        · skip
                          refine l_x rfl (x_mv rfl) ?_
                          refine l_x rfl (x_mv rfl) ?_
                          refine l_x rfl (x_eql rfl rfl) ?_
                          refine l_x rfl (x_pick_t rfl rfl) ?_
                          refine l_x rfl (x_mv rfl) ?_
                          refine l_splitd (d := 118) rfl (fun hg118 => ?_) (fun hg118 => ?_)
                          · skip
                            refine l_x rfl (x_mv rfl) ?_
                            refine l_x rfl (x_neq rfl rfl) ?_
                            refine l_x rfl (x_mv rfl) ?_
                            refine l_splitd (d := 121) rfl (fun hg121 => ?_) (fun hg121 => ?_)
                            · exact absurd rfl hg121
                            · skip
                              refine l_x rfl (x_load rfl (ld_blks (S94.blk 6 rfl) Try.isAgg24 Try.sizeOf24 rfl rfl)) ?_
                              refine l_x rfl (x_load rfl (ld_blks (S94.blk 2 rfl) Try.isAgg24 Try.sizeOf24 rfl rfl)) ?_
                              refine l_call [] [] [_, _] rfl rfl Try.call24 rfl (c_SameNet _ _ _ _ _ _ (by first | omega | (have h1 := nar_len (arcs := arcs) (i := i) (lo := 0) (hi := 1000000) (r := 1); omega)) _ (vec_rd (S94.at 5 rfl)) (vec_rd (S94.at 1 rfl))) ?_
                              rintro _ w96 ⟨rfl, hl98⟩
                              have S97 := S94.step hl98
                              refine l_x rfl (x_pick_f rfl rfl) ?_
                              refine l_x rfl (x_pick_t rfl rfl) ?_
                              refine l_x rfl (x_as rfl) ?_
                              refine l_nil ?_
                              refine r_ret (rs := [.tmp 6]) [_] Try.func4 rfl ⟨rfl, trivial⟩ ?_
                              exact ⟨congrArg Value.bool (decide_eq_true ⟨rfl, nar_idle hnA⟩), S97.le⟩
                          · exact absurd rfl hg118
                        · exact absurd (GrR.same hR1 hR2).2 hg113
                      · exact absurd (GrR.same hR1 hR2).1 hg108
                    · exact absurd ⟨rfl, rfl⟩ hg103
                  · exact absurd (hnE9481.trans hnA) hn09481
              · skip
                have S99 := S59.add hl6861 hN6861
                have hnA := hnE6861
                have hn0A := hn06861
                have hnl : ([] : List Arc).length = 0 := rfl
                refine l_x rfl (x_mv rfl) ?_
                refine l_x rfl (x_extract rfl rfl) ?_
                refine l_x rfl (x_extract rfl rfl) ?_
                refine l_alloc S99 rfl Try.zeroValue24 rfl ?_
                intro b103 w100 S101 hl102
                refine l_stores (vs := [_, _]) S101 4 rfl rfl rfl rfl (ones_cons rfl (ones_cons (Rd.one (vec_rd (S101.at 3 rfl))) ones_nil)) Try.sizeOf24 (by first | exact Nat.le_refl _ | simp) (splice_all rfl) ?_
                intro w104 S105 hk106
                refine l_x rfl (x_as rfl) ?_
                refine l_nil ?_
                refine r_seq ?_
                refine r_seq ?_
                refine r_region ?_
                refine l_x rfl (x_as rfl) ?_
                refine l_nil ?_
                refine r_block ?_
                refine r_loop (G := Nat × List Arc) (fun ⟨j, lc⟩ => lc.length - j) (fun ⟨j, lc⟩ => [(1, vw), (2, .int .i64 i), (3, .pointer (some ⟨b4, 0, none⟩)), (7, .pointer (some ⟨b35, 0, none⟩)), (8, .int .i64 n4243), (11, .int .i64 e4243), (14, .pointer (some ⟨b103, 0, none⟩)), (15, .int .i64 e6861), (16, .int .i64 j)]) (fun ⟨j, lc⟩ w' => (j ≤ lc.length) ∧ (lc.length = (([] : List Arc)).length) ∧ Own nob w w' [blk b4 [.int .i64 N, va] 24, vec EA v29 arcs, blk b35 [.int .i64 N, v29] 24, vec EA vh6861 lc, blk b103 [.int .i64 0, vh6861] 24]) (0, ([] : List Arc)) ⟨rfl, rfl, rfl, rfl, rfl, rfl, rfl, rfl, rfl, trivial⟩ ⟨Nat.zero_le _, rfl, S105⟩ ?_
                rintro ⟨j, lc⟩ ρ w1c ⟨hj, hl, S1c⟩ IHc
                refine r_seq ?_
                refine r_seq ?_
                refine r_region ?_
                refine l_x rfl (x_mv rfl) ?_
                refine l_x rfl (x_fieldAddr rfl Try.runUnderlying24 rfl Try.sizeOf22 (by decide)) ?_
                refine l_x rfl (x_load rfl (ld_blk (S1c.blk 4 rfl) Try.isAgg22 rfl)) ?_
                refine l_x rfl (x_len (vec_rd (S1c.at 3 rfl)) rfl Try.runUnderlying22) ?_
                refine l_x rfl (x_lss rfl rfl) ?_
                refine l_nil ?_
                refine r_ifd rfl (fun hc75 => ?_) (fun hc75 => ?_)
                · skip
                  refine r_skip ?_
                  refine r_seq ?_
                  refine r_block ?_
                  refine r_region ?_
                  refine l_x rfl (x_fieldAddr rfl Try.runUnderlying24 rfl Try.sizeOf22 (by decide)) ?_
                  refine l_x rfl (x_load rfl (ld_blk (S1c.blk 4 rfl) Try.isAgg22 rfl)) ?_
                  refine l_x rfl (x_mv rfl) ?_
                  refine l_x rfl (x_buildS (out := [_, _, _, _, _, _]) (ss := [1, 1, 1, 1, 1, 1]) Try.zeroValue39 rfl Try.runUnderlying39 ⟨Try.sizeOf3, Try.sizeOf3, Try.sizeOf3, Try.sizeOf3, Try.sizeOf3, Try.sizeOf3, trivial⟩ (fill_cons rfl rfl rfl (Nat.le_of_ble_eq_true rfl) fill_nil)) ?_
                  refine l_index EA rfl (vec_rd (S1c.at 3 rfl)) rfl rfl Try.runUnderlying22 Try.sizeOf39 (by omega) (by first | assumption | exact List.getElem?_eq_getElem (by omega)) ?_
                  intro b107 o108 hat109 row110
                  refine l_storeva (a' := ⟨-7, 0, 0, 0, 0, 0⟩) S1c 3 rfl rfl hat109 rfl rfl Try.sizeOf39 (by first | assumption | exact List.getElem?_eq_getElem (by omega)) rfl ?_
                  intro w111 S112 hk113
                  refine l_nil ?_
                  refine r_inBlock ?_
                  refine r_region ?_
                  refine l_x rfl (x_mv rfl) ?_
                  refine l_x rfl (x_add rfl rfl (by omega)) ?_
                  refine l_x rfl (x_as rfl) ?_
                  refine l_nil ?_
                  exact IHc (j + 1, lc.set j ⟨-7, 0, 0, 0, 0, 0⟩) _ _ (by dsimp only; rw [List.length_set]; omega) ⟨rfl, rfl, rfl, rfl, rfl, rfl, rfl, rfl, rfl, trivial⟩ ⟨by rw [List.length_set]; omega, by rw [List.length_set]; exact hl, S112⟩
                · skip
                  refine r_exit rfl ?_
                  refine r_seq ?_
                  have S114 := S1c.pick (L' := [_, _, _]) [0, 1, 2] (by decide) rfl
                  refine r_forget [(1, vw), (2, .int .i64 i), (3, .pointer (some ⟨b4, 0, none⟩)), (7, .pointer (some ⟨b35, 0, none⟩)), (8, .int .i64 n4243), (11, .int .i64 e4243), (15, .int .i64 e6861)] ⟨rfl, rfl, rfl, rfl, rfl, rfl, rfl, trivial⟩ ?_
                  intro ρ115
                  refine r_region ?_
                  refine l_x rfl (x_load rfl (ld_blks (S114.blk 0 rfl) Try.isAgg24 Try.sizeOf24 rfl rfl)) ?_
                  refine l_x rfl (x_mv rfl) ?_
                  refine l_call [] [] [_, _] rfl rfl Try.call22 rfl (c_Greatest _ _ _ _ _ (by first | omega | (rw [unit_length]; omega) | (rw [List.length_map]; omega) | decide) _ (hA.le S114.le) (Hwl.le S114.le)) ?_
                  rintro _ w116 ⟨n86116, vx86116, x86116, vp86116, p86116, e86116, rfl, hO86116, hR86116⟩
                  have S117 := S114.join hO86116
                  have hb86116 := hR86116.bd
                  have hR2 := hR86116
                  refine l_x rfl (x_mv rfl) ?_
                  refine l_x rfl (x_extract rfl rfl) ?_
                  refine l_x rfl (x_extract rfl rfl) ?_
                  refine l_x rfl (x_extract rfl rfl) ?_
                  refine l_x rfl (x_extract rfl rfl) ?_
                  refine l_x rfl (x_as rfl) ?_
                  refine l_x rfl (x_as rfl) ?_
                  refine l_x rfl (x_as rfl) ?_
                  refine l_x rfl (x_as rfl) ?_
                  refine l_nil ?_
                  refine r_seq ?_
                  refine r_region ?_
                  refine l_x rfl (x_load rfl (ld_blks (S117.blk 0 rfl) Try.isAgg24 Try.sizeOf24 rfl rfl)) ?_
                  refine l_x rfl (x_mv rfl) ?_
                  refine l_call [] [] [_, _, _, _, _] rfl rfl Try.call20 rfl (c_Narrow2 _ _ _ _ _ _ _ _ (hA.le S117.le)) ?_
                  rintro _ w118 (⟨vh94118, rfl, hN94118, hl94118, hnE94118⟩ | ⟨vh94118, e94118, rfl, hN94118, hl94118, hnE94118, hn094118⟩)
                  · exact absurd (hnA.trans hnE94118) hn0A
                  · skip
                    have S119 := S117.add hl94118 hN94118
                    have hnB := hnE94118
                    refine l_x rfl (x_mv rfl) ?_
                    refine l_x rfl (x_extract rfl rfl) ?_
                    refine l_x rfl (x_extract rfl rfl) ?_
                    refine l_alloc S119 rfl Try.zeroValue24 rfl ?_
                    intro b123 w120 S121 hl122
                    refine l_stores (vs := [_, _]) S121 6 rfl rfl rfl rfl (ones_cons rfl (ones_cons (Rd.one (vec_rd (S121.at 5 rfl))) ones_nil)) Try.sizeOf24 (by first | exact Nat.le_refl _ | simp) (splice_all rfl) ?_
                    intro w124 S125 hk126
                    refine l_x rfl (x_as rfl) ?_
                    refine l_nil ?_
                    refine r_seq ?_
                    refine r_region ?_
                    refine l_call [] [] [] rfl rfl Try.call19 rfl (c_flowing _) ?_
                    rintro _ w127 ⟨rfl, hl129⟩
                    have S128 := S125.step hl129
                    refine l_x rfl (x_mv rfl) ?_
                    refine l_x rfl (x_load rfl (ld_blks (S128.blk 0 rfl) Try.isAgg24 Try.sizeOf24 rfl rfl)) ?_
                    refine l_x rfl (x_load rfl (ld_blks (S128.blk 2 rfl) Try.isAgg24 Try.sizeOf24 rfl rfl)) ?_
                    refine l_call [] [] [_, _] rfl rfl Try.call24 rfl (c_SameNet _ _ _ _ _ _ (by first | omega | (have h1 := nar_len (arcs := arcs) (i := i) (lo := 0) (hi := 1000000) (r := 1); omega)) _ (hA.le S128.le) (vec_rd (S128.at 1 rfl))) ?_
                    rintro _ w130 ⟨rfl, hl132⟩
                    have S131 := S128.step hl132
                    refine l_x rfl (x_pick_t rfl rfl) ?_
                    refine l_x rfl (x_mv rfl) ?_
                    refine l_splitd (d := 103) rfl (fun hg103 => ?_) (fun hg103 => ?_)
                    · skip
                      refine l_x rfl (x_mv rfl) ?_
                      refine l_x rfl (x_mv rfl) ?_
                      refine l_x rfl (x_eql rfl rfl) ?_
                      refine l_x rfl (x_pick_t rfl rfl) ?_
                      refine l_x rfl (x_mv rfl) ?_
                      refine l_splitd (d := 108) rfl (fun hg108 => ?_) (fun hg108 => ?_)
                      · skip
                        refine l_x rfl (x_mv rfl) ?_
                        refine l_x rfl (x_mv rfl) ?_
                        refine l_x rfl (x_eql rfl rfl) ?_
                        refine l_x rfl (x_pick_t rfl rfl) ?_
                        refine l_x rfl (x_mv rfl) ?_
                        refine l_splitd (d := 113) rfl (fun hg113 => ?_) (fun hg113 => ?_)
                        · skip
                          refine l_x rfl (x_mv rfl) ?_
                          refine l_x rfl (x_mv rfl) ?_
                          refine l_x rfl (x_eql rfl rfl) ?_
                          refine l_x rfl (x_pick_t rfl rfl) ?_
                          refine l_x rfl (x_mv rfl) ?_
                          refine l_splitd (d := 118) rfl (fun hg118 => ?_) (fun hg118 => ?_)
                          · skip
                            refine l_x rfl (x_mv rfl) ?_
                            refine l_x rfl (x_neq rfl rfl) ?_
                            refine l_x rfl (x_mv rfl) ?_
                            refine l_splitd (d := 121) rfl (fun hg121 => ?_) (fun hg121 => ?_)
                            · skip
                              refine l_pass rfl ?_
                              refine l_pass rfl ?_
                              refine l_pass rfl ?_
                              refine l_x rfl (x_pick_t rfl rfl) ?_
                              refine l_x rfl (x_pick_t rfl rfl) ?_
                              refine l_x rfl (x_as rfl) ?_
                              refine l_nil ?_
                              refine r_ret (rs := [.tmp 6]) [_] Try.func4 rfl ⟨rfl, trivial⟩ ?_
                              exact ⟨rfl, S131.le⟩
                            · exact absurd (Decidable.not_not.1 hg121) hn0A
                          · exact absurd (hnA.trans hnB.symm) hg118
                        · exact absurd (GrR.same hR1 hR2).2 hg113
                      · exact absurd (GrR.same hR1 hR2).1 hg108
                    · exact absurd ⟨rfl, rfl⟩ hg103
        · skip
          refine s_allocY S20 rfl Try.zeroValue24 rfl ?_
          intro b136 w133 S134 hl135 hb137
          refine ⟨.of_le hl135, ?_⟩
          have hy138 : Keep (yng w5) w5 w133 := hy24.trans (Keep.of_le hl135)
          refine e_next [5] (by kernel_rfl) (by kernel_rfl) ⟨⟨_, _, rfl, rfl, ?_⟩, trivial⟩
          refine s_append EA (S134.lend 1 rfl) 0 rfl rfl rfl rfl (hA.le S134.le) Try.underlying22 info39 rfl rfl rfl (by unfold maxLen; rw [List.length_nil]; omega) (by show _ * 48 ≤ _; rw [List.length_nil]; omega) ?_
          intro v143 w139 S140 hk142 hv144
          have S141 := S134.back 1 rfl S140
          refine ⟨hk142.mono (fun c _ hc => Nat.le_trans hy17.size (hn23.bd c hc).1), ?_⟩
          have hy145 : Keep (yng w5) w5 w139 := hy138.trans (hk142.mono (fun c _ hc => Nat.le_trans hy17.size (hn23.bd c hc).1))
          refine e_exact 6 _ (by kernel_rfl) rfl rfl (by kernel_rfl) rfl (ex_x rfl (fun w1 h1 => x_buildS (out := [_, _]) (ss := [1, 1]) Try.zeroValue24 rfl Try.runUnderlying24 ⟨Try.sizeOf3, Try.sizeOf22, trivial⟩ (fill_cons rfl rfl rfl (Nat.le_of_ble_eq_true rfl) (fill_cons rfl (Rd.cells (vec_rd (S141.at 1 rfl))) rfl (Nat.le_of_ble_eq_true rfl) fill_nil)))) ?_
          refine e_done (by kernel_rfl) ?_
          refine l_stores (vs := [_, _]) S141 2 rfl rfl rfl rfl (ones_cons rfl (ones_cons (Rd.one (vec_rd (S141.at 1 rfl))) ones_nil)) Try.sizeOf24 (by first | exact Nat.le_refl _ | simp) (splice_all rfl) ?_
          intro w146 S147 hk148
          refine l_nil ?_
          refine r_seq ?_
          have S149 := S147.pick (L' := [_, _, _]) [0, 1, 2] (by decide) rfl
          refine r_forget [(1, vw), (2, .int .i64 i), (3, .pointer (some ⟨b4, 0, none⟩)), (7, .pointer (some ⟨b136, 0, none⟩))] ⟨rfl, rfl, rfl, rfl, trivial⟩ ?_
          intro ρ150
          refine r_region ?_
          refine l_x rfl (x_load rfl (ld_blks (S149.blk 0 rfl) Try.isAgg24 Try.sizeOf24 rfl rfl)) ?_
          refine l_x rfl (x_mv rfl) ?_
          refine l_call [] [] [_, _] rfl rfl Try.call22 rfl (c_Greatest _ _ _ _ _ (by first | omega | (rw [unit_length]; omega) | (rw [List.length_map]; omega) | decide) _ (hA.le S149.le) (Hwl.le S149.le)) ?_
          rintro _ w151 ⟨n42151, vx42151, x42151, vp42151, p42151, e42151, rfl, hO42151, hR42151⟩
          have S152 := S149.join hO42151
          have hb42151 := hR42151.bd
          have hR1 := hR42151
          have hln := hR42151.len
          refine l_x rfl (x_mv rfl) ?_
          refine l_x rfl (x_extract rfl rfl) ?_
          refine l_x rfl (x_extract rfl rfl) ?_
          refine l_x rfl (x_extract rfl rfl) ?_
          refine l_x rfl (x_extract rfl rfl) ?_
          refine l_x rfl (x_as rfl) ?_
          refine l_x rfl (x_as rfl) ?_
          refine l_x rfl (x_as rfl) ?_
          refine l_x rfl (x_as rfl) ?_
          refine l_nil ?_
          refine r_seq ?_
          refine r_seq ?_
          refine r_region ?_
          refine l_x rfl (x_as rfl) ?_
          refine l_nil ?_
          refine r_block ?_
          refine r_loop (G := Nat × List Int) (fun ⟨j, la⟩ => la.length - j) (fun ⟨j, la⟩ => [(1, vw), (2, .int .i64 i), (3, .pointer (some ⟨b4, 0, none⟩)), (7, .pointer (some ⟨b136, 0, none⟩)), (8, .int .i64 n42151), (11, .int .i64 e42151), (9, vx42151), (10, vp42151), (12, .int .i64 j)]) (fun ⟨j, la⟩ w' => (j ≤ la.length) ∧ (la.length = (x42151).length) ∧ Own nob w w' [blk b4 [.int .i64 N, va] 24, vec EA v143 arcs, blk b136 [.int .i64 N, v143] 24, vec EI vx42151 la, vec EI vp42151 p42151]) (0, x42151) ⟨rfl, rfl, rfl, rfl, rfl, rfl, rfl, rfl, rfl, trivial⟩ ⟨Nat.zero_le _, rfl, S152⟩ ?_
          rintro ⟨j, la⟩ ρ w1a ⟨hj, hl, S1a⟩ IHa
          refine r_seq ?_
          refine r_seq ?_
          refine r_region ?_
          refine l_x rfl (x_mv rfl) ?_
          refine l_x rfl (x_mv rfl) ?_
          refine l_x rfl (x_len (vec_rd (S1a.at 3 rfl)) rfl Try.runUnderlying25) ?_
          refine l_x rfl (x_lss rfl rfl) ?_
          refine l_nil ?_
          refine r_ifd rfl (fun hc50 => ?_) (fun hc50 => ?_)
          · skip
            refine r_skip ?_
            refine r_seq ?_
            refine r_block ?_
            refine r_region ?_
            refine l_x rfl (x_mv rfl) ?_
            refine l_x rfl (x_mv rfl) ?_
            refine l_index EI rfl (vec_rd (S1a.at 3 rfl)) rfl rfl Try.runUnderlying25 Try.sizeOf3 (by omega) (by first | assumption | exact List.getElem?_eq_getElem (by omega)) ?_
            intro b153 o154 hat155 row156
            refine l_storevi (f := 0) S1a 3 rfl rfl hat155 rfl rfl Try.sizeOf3 (by first | assumption | exact List.getElem?_eq_getElem (by omega)) (by decide) rfl ?_
            intro w157 S158 hk159
            refine l_nil ?_
            refine r_inBlock ?_
            refine r_region ?_
            refine l_x rfl (x_mv rfl) ?_
            refine l_x rfl (x_add rfl rfl (by omega)) ?_
            refine l_x rfl (x_as rfl) ?_
            refine l_nil ?_
            exact IHa (j + 1, la.set j (-7)) _ _ (by dsimp only; rw [List.length_set]; omega) ⟨rfl, rfl, rfl, rfl, rfl, rfl, rfl, rfl, rfl, trivial⟩ ⟨by rw [List.length_set]; omega, by rw [List.length_set]; exact hl, S158⟩
          · skip
            refine r_exit rfl ?_
            refine r_seq ?_
            refine r_seq ?_
            refine r_region ?_
            refine l_x rfl (x_as rfl) ?_
            refine l_nil ?_
            refine r_block ?_
            refine r_loop (G := Nat × List Int) (fun ⟨j, lb⟩ => lb.length - j) (fun ⟨j, lb⟩ => [(1, vw), (2, .int .i64 i), (3, .pointer (some ⟨b4, 0, none⟩)), (7, .pointer (some ⟨b136, 0, none⟩)), (8, .int .i64 n42151), (11, .int .i64 e42151), (10, vp42151), (13, .int .i64 j)]) (fun ⟨j, lb⟩ w' => (j ≤ lb.length) ∧ (lb.length = (p42151).length) ∧ Own nob w w' [blk b4 [.int .i64 N, va] 24, vec EA v143 arcs, blk b136 [.int .i64 N, v143] 24, vec EI vx42151 la, vec EI vp42151 lb]) (0, p42151) ⟨rfl, rfl, rfl, rfl, rfl, rfl, rfl, rfl, trivial⟩ ⟨Nat.zero_le _, rfl, S1a⟩ ?_
            rintro ⟨j, lb⟩ ρ w1b ⟨hj, hl, S1b⟩ IHb
            refine r_seq ?_
            refine r_seq ?_
            refine r_region ?_
            refine l_x rfl (x_mv rfl) ?_
            refine l_x rfl (x_mv rfl) ?_
            refine l_x rfl (x_len (vec_rd (S1b.at 4 rfl)) rfl Try.runUnderlying25) ?_
            refine l_x rfl (x_lss rfl rfl) ?_
            refine l_nil ?_
            refine r_ifd rfl (fun hc59 => ?_) (fun hc59 => ?_)
            · skip
              refine r_skip ?_
              refine r_seq ?_
              refine r_block ?_
              refine r_region ?_
              refine l_x rfl (x_mv rfl) ?_
              refine l_x rfl (x_mv rfl) ?_
              refine l_index EI rfl (vec_rd (S1b.at 4 rfl)) rfl rfl Try.runUnderlying25 Try.sizeOf3 (by omega) (by first | assumption | exact List.getElem?_eq_getElem (by omega)) ?_
              intro b160 o161 hat162 row163
              refine l_storevi (f := 0) S1b 4 rfl rfl hat162 rfl rfl Try.sizeOf3 (by first | assumption | exact List.getElem?_eq_getElem (by omega)) (by decide) rfl ?_
              intro w164 S165 hk166
              refine l_nil ?_
              refine r_inBlock ?_
              refine r_region ?_
              refine l_x rfl (x_mv rfl) ?_
              refine l_x rfl (x_add rfl rfl (by omega)) ?_
              refine l_x rfl (x_as rfl) ?_
              refine l_nil ?_
              exact IHb (j + 1, lb.set j (-7)) _ _ (by dsimp only; rw [List.length_set]; omega) ⟨rfl, rfl, rfl, rfl, rfl, rfl, rfl, rfl, trivial⟩ ⟨by rw [List.length_set]; omega, by rw [List.length_set]; exact hl, S165⟩
            · skip
              refine r_exit rfl ?_
              refine r_seq ?_
              have S167 := S1b.pick (L' := [_, _, _]) [0, 1, 2] (by decide) rfl
              refine r_forget [(1, vw), (2, .int .i64 i), (3, .pointer (some ⟨b4, 0, none⟩)), (7, .pointer (some ⟨b136, 0, none⟩)), (8, .int .i64 n42151), (11, .int .i64 e42151)] ⟨rfl, rfl, rfl, rfl, rfl, rfl, trivial⟩ ?_
              intro ρ168
              refine r_region ?_
              refine l_x rfl (x_load rfl (ld_blks (S167.blk 0 rfl) Try.isAgg24 Try.sizeOf24 rfl rfl)) ?_
              refine l_x rfl (x_mv rfl) ?_
              refine l_call [] [] [_, _, _, _, _] rfl rfl Try.call20 rfl (c_Narrow2 _ _ _ _ _ _ _ _ (hA.le S167.le)) ?_
              rintro _ w169 (⟨vh68169, rfl, hN68169, hl68169, hnE68169⟩ | ⟨vh68169, e68169, rfl, hN68169, hl68169, hnE68169, hn068169⟩)
              · skip
                have S170 := S167.add hl68169 hN68169
                have hnA := hnE68169
                have hnl := nar_len (arcs := arcs) (i := i) (lo := 0) (hi := 1000000) (r := 1)
                refine l_x rfl (x_mv rfl) ?_
                refine l_x rfl (x_extract rfl rfl) ?_
                refine l_x rfl (x_extract rfl rfl) ?_
                refine l_alloc S170 rfl Try.zeroValue24 rfl ?_
                intro b174 w171 S172 hl173
                refine l_stores (vs := [_, _]) S172 4 rfl rfl rfl rfl (ones_cons rfl (ones_cons (Rd.one (vec_rd (S172.at 3 rfl))) ones_nil)) Try.sizeOf24 (by first | exact Nat.le_refl _ | simp) (splice_all rfl) ?_
                intro w175 S176 hk177
                refine l_x rfl (x_as rfl) ?_
                refine l_nil ?_
                refine r_seq ?_
                refine r_seq ?_
                refine r_region ?_
                refine l_x rfl (x_as rfl) ?_
                refine l_nil ?_
                refine r_block ?_
                refine r_loop (G := Nat × List Arc) (fun ⟨j, lc⟩ => lc.length - j) (fun ⟨j, lc⟩ => [(1, vw), (2, .int .i64 i), (3, .pointer (some ⟨b4, 0, none⟩)), (7, .pointer (some ⟨b136, 0, none⟩)), (8, .int .i64 n42151), (11, .int .i64 e42151), (14, .pointer (some ⟨b174, 0, none⟩)), (15, .int .i64 0), (16, .int .i64 j)]) (fun ⟨j, lc⟩ w' => (j ≤ lc.length) ∧ (lc.length = (nar arcs i.toNat 0 1000000 1).length) ∧ Own nob w w' [blk b4 [.int .i64 N, va] 24, vec EA v143 arcs, blk b136 [.int .i64 N, v143] 24, vec EA vh68169 lc, blk b174 [.int .i64 N, vh68169] 24]) (0, nar arcs i.toNat 0 1000000 1) ⟨rfl, rfl, rfl, rfl, rfl, rfl, rfl, rfl, rfl, trivial⟩ ⟨Nat.zero_le _, rfl, S176⟩ ?_
                rintro ⟨j, lc⟩ ρ w1c ⟨hj, hl, S1c⟩ IHc
                refine r_seq ?_
                refine r_seq ?_
                refine r_region ?_
                refine l_x rfl (x_mv rfl) ?_
                refine l_x rfl (x_fieldAddr rfl Try.runUnderlying24 rfl Try.sizeOf22 (by decide)) ?_
                refine l_x rfl (x_load rfl (ld_blk (S1c.blk 4 rfl) Try.isAgg22 rfl)) ?_
                refine l_x rfl (x_len (vec_rd (S1c.at 3 rfl)) rfl Try.runUnderlying22) ?_
                refine l_x rfl (x_lss rfl rfl) ?_
                refine l_nil ?_
                refine r_ifd rfl (fun hc75 => ?_) (fun hc75 => ?_)
                · skip
                  refine r_skip ?_
                  refine r_seq ?_
                  refine r_block ?_
                  refine r_region ?_
                  refine l_x rfl (x_fieldAddr rfl Try.runUnderlying24 rfl Try.sizeOf22 (by decide)) ?_
                  refine l_x rfl (x_load rfl (ld_blk (S1c.blk 4 rfl) Try.isAgg22 rfl)) ?_
                  refine l_x rfl (x_mv rfl) ?_
                  refine l_x rfl (x_buildS (out := [_, _, _, _, _, _]) (ss := [1, 1, 1, 1, 1, 1]) Try.zeroValue39 rfl Try.runUnderlying39 ⟨Try.sizeOf3, Try.sizeOf3, Try.sizeOf3, Try.sizeOf3, Try.sizeOf3, Try.sizeOf3, trivial⟩ (fill_cons rfl rfl rfl (Nat.le_of_ble_eq_true rfl) fill_nil)) ?_
                  refine l_index EA rfl (vec_rd (S1c.at 3 rfl)) rfl rfl Try.runUnderlying22 Try.sizeOf39 (by omega) (by first | assumption | exact List.getElem?_eq_getElem (by omega)) ?_
                  intro b178 o179 hat180 row181
                  refine l_storeva (a' := ⟨-7, 0, 0, 0, 0, 0⟩) S1c 3 rfl rfl hat180 rfl rfl Try.sizeOf39 (by first | assumption | exact List.getElem?_eq_getElem (by omega)) rfl ?_
                  intro w182 S183 hk184
                  refine l_nil ?_
                  refine r_inBlock ?_
                  refine r_region ?_
                  refine l_x rfl (x_mv rfl) ?_
                  refine l_x rfl (x_add rfl rfl (by omega)) ?_
                  refine l_x rfl (x_as rfl) ?_
                  refine l_nil ?_
                  exact IHc (j + 1, lc.set j ⟨-7, 0, 0, 0, 0, 0⟩) _ _ (by dsimp only; rw [List.length_set]; omega) ⟨rfl, rfl, rfl, rfl, rfl, rfl, rfl, rfl, rfl, trivial⟩ ⟨by rw [List.length_set]; omega, by rw [List.length_set]; exact hl, S183⟩
                · skip
                  refine r_exit rfl ?_
                  refine r_seq ?_
                  have S185 := S1c.pick (L' := [_, _, _]) [0, 1, 2] (by decide) rfl
                  refine r_forget [(1, vw), (2, .int .i64 i), (3, .pointer (some ⟨b4, 0, none⟩)), (7, .pointer (some ⟨b136, 0, none⟩)), (8, .int .i64 n42151), (11, .int .i64 e42151), (15, .int .i64 0)] ⟨rfl, rfl, rfl, rfl, rfl, rfl, rfl, trivial⟩ ?_
                  intro ρ186
                  refine r_region ?_
                  refine l_x rfl (x_load rfl (ld_blks (S185.blk 0 rfl) Try.isAgg24 Try.sizeOf24 rfl rfl)) ?_
                  refine l_x rfl (x_mv rfl) ?_
                  refine l_call [] [] [_, _] rfl rfl Try.call22 rfl (c_Greatest _ _ _ _ _ (by first | omega | (rw [unit_length]; omega) | (rw [List.length_map]; omega) | decide) _ (hA.le S185.le) (Hwl.le S185.le)) ?_
                  rintro _ w187 ⟨n86187, vx86187, x86187, vp86187, p86187, e86187, rfl, hO86187, hR86187⟩
                  have S188 := S185.join hO86187
                  have hb86187 := hR86187.bd
                  have hR2 := hR86187
                  refine l_x rfl (x_mv rfl) ?_
                  refine l_x rfl (x_extract rfl rfl) ?_
                  refine l_x rfl (x_extract rfl rfl) ?_
                  refine l_x rfl (x_extract rfl rfl) ?_
                  refine l_x rfl (x_extract rfl rfl) ?_
                  refine l_x rfl (x_as rfl) ?_
                  refine l_x rfl (x_as rfl) ?_
                  refine l_x rfl (x_as rfl) ?_
                  refine l_x rfl (x_as rfl) ?_
                  refine l_nil ?_
                  refine r_seq ?_
                  refine r_region ?_
                  refine l_x rfl (x_load rfl (ld_blks (S188.blk 0 rfl) Try.isAgg24 Try.sizeOf24 rfl rfl)) ?_
                  refine l_x rfl (x_mv rfl) ?_
                  refine l_call [] [] [_, _, _, _, _] rfl rfl Try.call20 rfl (c_Narrow2 _ _ _ _ _ _ _ _ (hA.le S188.le)) ?_
                  rintro _ w189 (⟨vh94189, rfl, hN94189, hl94189, hnE94189⟩ | ⟨vh94189, e94189, rfl, hN94189, hl94189, hnE94189, hn094189⟩)
                  · skip
                    have S190 := S188.add hl94189 hN94189
                    have hnB := hnE94189
                    refine l_x rfl (x_mv rfl) ?_
                    refine l_x rfl (x_extract rfl rfl) ?_
                    refine l_x rfl (x_extract rfl rfl) ?_
                    refine l_alloc S190 rfl Try.zeroValue24 rfl ?_
                    intro b194 w191 S192 hl193
                    refine l_stores (vs := [_, _]) S192 6 rfl rfl rfl rfl (ones_cons rfl (ones_cons (Rd.one (vec_rd (S192.at 5 rfl))) ones_nil)) Try.sizeOf24 (by first | exact Nat.le_refl _ | simp) (splice_all rfl) ?_
                    intro w195 S196 hk197
                    refine l_x rfl (x_as rfl) ?_
                    refine l_nil ?_
                    refine r_seq ?_
                    refine r_region ?_
                    refine l_call [] [] [] rfl rfl Try.call19 rfl (c_flowing _) ?_
                    rintro _ w198 ⟨rfl, hl200⟩
                    have S199 := S196.step hl200
                    refine l_x rfl (x_mv rfl) ?_
                    refine l_x rfl (x_load rfl (ld_blks (S199.blk 0 rfl) Try.isAgg24 Try.sizeOf24 rfl rfl)) ?_
                    refine l_x rfl (x_load rfl (ld_blks (S199.blk 2 rfl) Try.isAgg24 Try.sizeOf24 rfl rfl)) ?_
                    refine l_call [] [] [_, _] rfl rfl Try.call24 rfl (c_SameNet _ _ _ _ _ _ (by first | omega | (have h1 := nar_len (arcs := arcs) (i := i) (lo := 0) (hi := 1000000) (r := 1); omega)) _ (hA.le S199.le) (vec_rd (S199.at 1 rfl))) ?_
                    rintro _ w201 ⟨rfl, hl203⟩
                    have S202 := S199.step hl203
                    refine l_x rfl (x_pick_t rfl rfl) ?_
                    refine l_x rfl (x_mv rfl) ?_
                    refine l_splitd (d := 103) rfl (fun hg103 => ?_) (fun hg103 => ?_)
                    · skip
                      refine l_x rfl (x_mv rfl) ?_
                      refine l_x rfl (x_mv rfl) ?_
                      refine l_x rfl (x_eql rfl rfl) ?_
                      refine l_x rfl (x_pick_t rfl rfl) ?_
                      refine l_x rfl (x_mv rfl) ?_
                      refine l_splitd (d := 108) rfl (fun hg108 => ?_) (fun hg108 => ?_)
                      · skip
                        refine l_x rfl (x_mv rfl) ?_
                        refine l_x rfl (x_mv rfl) ?_
                        refine l_x rfl (x_eql rfl rfl) ?_
                        refine l_x rfl (x_pick_t rfl rfl) ?_
                        refine l_x rfl (x_mv rfl) ?_
                        refine l_splitd (d := 113) rfl (fun hg113 => ?_) (fun hg113 => ?_)
                        · skip
                          refine l_x rfl (x_mv rfl) ?_
                          refine l_x rfl (x_mv rfl) ?_
                          refine l_x rfl (x_eql rfl rfl) ?_
                          refine l_x rfl (x_pick_t rfl rfl) ?_
                          refine l_x rfl (x_mv rfl) ?_
                          refine l_splitd (d := 118) rfl (fun hg118 => ?_) (fun hg118 => ?_)
                          · skip
                            refine l_x rfl (x_mv rfl) ?_
                            refine l_x rfl (x_neq rfl rfl) ?_
                            refine l_x rfl (x_mv rfl) ?_
                            refine l_splitd (d := 121) rfl (fun hg121 => ?_) (fun hg121 => ?_)
                            · exact absurd rfl hg121
                            · skip
                              refine l_x rfl (x_load rfl (ld_blks (S202.blk 6 rfl) Try.isAgg24 Try.sizeOf24 rfl rfl)) ?_
                              refine l_x rfl (x_load rfl (ld_blks (S202.blk 2 rfl) Try.isAgg24 Try.sizeOf24 rfl rfl)) ?_
                              refine l_call [] [] [_, _] rfl rfl Try.call24 rfl (c_SameNet _ _ _ _ _ _ (by first | omega | (have h1 := nar_len (arcs := arcs) (i := i) (lo := 0) (hi := 1000000) (r := 1); omega)) _ (vec_rd (S202.at 5 rfl)) (vec_rd (S202.at 1 rfl))) ?_
                              rintro _ w204 ⟨rfl, hl206⟩
                              have S205 := S202.step hl206
                              refine l_x rfl (x_pick_f rfl rfl) ?_
                              refine l_x rfl (x_pick_t rfl rfl) ?_
                              refine l_x rfl (x_as rfl) ?_
                              refine l_nil ?_
                              refine r_ret (rs := [.tmp 6]) [_] Try.func4 rfl ⟨rfl, trivial⟩ ?_
                              exact ⟨congrArg Value.bool (decide_eq_true ⟨rfl, nar_idle hnA⟩), S205.le⟩
                          · exact absurd rfl hg118
                        · exact absurd (GrR.same hR1 hR2).2 hg113
                      · exact absurd (GrR.same hR1 hR2).1 hg108
                    · exact absurd ⟨rfl, rfl⟩ hg103
                  · exact absurd (hnE94189.trans hnA) hn094189
              · skip
                have S207 := S167.add hl68169 hN68169
                have hnA := hnE68169
                have hn0A := hn068169
                have hnl : ([] : List Arc).length = 0 := rfl
                refine l_x rfl (x_mv rfl) ?_
                refine l_x rfl (x_extract rfl rfl) ?_
                refine l_x rfl (x_extract rfl rfl) ?_
                refine l_alloc S207 rfl Try.zeroValue24 rfl ?_
                intro b211 w208 S209 hl210
                refine l_stores (vs := [_, _]) S209 4 rfl rfl rfl rfl (ones_cons rfl (ones_cons (Rd.one (vec_rd (S209.at 3 rfl))) ones_nil)) Try.sizeOf24 (by first | exact Nat.le_refl _ | simp) (splice_all rfl) ?_
                intro w212 S213 hk214
                refine l_x rfl (x_as rfl) ?_
                refine l_nil ?_
                refine r_seq ?_
                refine r_seq ?_
                refine r_region ?_
                refine l_x rfl (x_as rfl) ?_
                refine l_nil ?_
                refine r_block ?_
                refine r_loop (G := Nat × List Arc) (fun ⟨j, lc⟩ => lc.length - j) (fun ⟨j, lc⟩ => [(1, vw), (2, .int .i64 i), (3, .pointer (some ⟨b4, 0, none⟩)), (7, .pointer (some ⟨b136, 0, none⟩)), (8, .int .i64 n42151), (11, .int .i64 e42151), (14, .pointer (some ⟨b211, 0, none⟩)), (15, .int .i64 e68169), (16, .int .i64 j)]) (fun ⟨j, lc⟩ w' => (j ≤ lc.length) ∧ (lc.length = (([] : List Arc)).length) ∧ Own nob w w' [blk b4 [.int .i64 N, va] 24, vec EA v143 arcs, blk b136 [.int .i64 N, v143] 24, vec EA vh68169 lc, blk b211 [.int .i64 0, vh68169] 24]) (0, ([] : List Arc)) ⟨rfl, rfl, rfl, rfl, rfl, rfl, rfl, rfl, rfl, trivial⟩ ⟨Nat.zero_le _, rfl, S213⟩ ?_
                rintro ⟨j, lc⟩ ρ w1c ⟨hj, hl, S1c⟩ IHc
                refine r_seq ?_
                refine r_seq ?_
                refine r_region ?_
                refine l_x rfl (x_mv rfl) ?_
                refine l_x rfl (x_fieldAddr rfl Try.runUnderlying24 rfl Try.sizeOf22 (by decide)) ?_
                refine l_x rfl (x_load rfl (ld_blk (S1c.blk 4 rfl) Try.isAgg22 rfl)) ?_
                refine l_x rfl (x_len (vec_rd (S1c.at 3 rfl)) rfl Try.runUnderlying22) ?_
                refine l_x rfl (x_lss rfl rfl) ?_
                refine l_nil ?_
                refine r_ifd rfl (fun hc75 => ?_) (fun hc75 => ?_)
                · skip
                  refine r_skip ?_
                  refine r_seq ?_
                  refine r_block ?_
                  refine r_region ?_
                  refine l_x rfl (x_fieldAddr rfl Try.runUnderlying24 rfl Try.sizeOf22 (by decide)) ?_
                  refine l_x rfl (x_load rfl (ld_blk (S1c.blk 4 rfl) Try.isAgg22 rfl)) ?_
                  refine l_x rfl (x_mv rfl) ?_
                  refine l_x rfl (x_buildS (out := [_, _, _, _, _, _]) (ss := [1, 1, 1, 1, 1, 1]) Try.zeroValue39 rfl Try.runUnderlying39 ⟨Try.sizeOf3, Try.sizeOf3, Try.sizeOf3, Try.sizeOf3, Try.sizeOf3, Try.sizeOf3, trivial⟩ (fill_cons rfl rfl rfl (Nat.le_of_ble_eq_true rfl) fill_nil)) ?_
                  refine l_index EA rfl (vec_rd (S1c.at 3 rfl)) rfl rfl Try.runUnderlying22 Try.sizeOf39 (by omega) (by first | assumption | exact List.getElem?_eq_getElem (by omega)) ?_
                  intro b215 o216 hat217 row218
                  refine l_storeva (a' := ⟨-7, 0, 0, 0, 0, 0⟩) S1c 3 rfl rfl hat217 rfl rfl Try.sizeOf39 (by first | assumption | exact List.getElem?_eq_getElem (by omega)) rfl ?_
                  intro w219 S220 hk221
                  refine l_nil ?_
                  refine r_inBlock ?_
                  refine r_region ?_
                  refine l_x rfl (x_mv rfl) ?_
                  refine l_x rfl (x_add rfl rfl (by omega)) ?_
                  refine l_x rfl (x_as rfl) ?_
                  refine l_nil ?_
                  exact IHc (j + 1, lc.set j ⟨-7, 0, 0, 0, 0, 0⟩) _ _ (by dsimp only; rw [List.length_set]; omega) ⟨rfl, rfl, rfl, rfl, rfl, rfl, rfl, rfl, rfl, trivial⟩ ⟨by rw [List.length_set]; omega, by rw [List.length_set]; exact hl, S220⟩
                · skip
                  refine r_exit rfl ?_
                  refine r_seq ?_
                  have S222 := S1c.pick (L' := [_, _, _]) [0, 1, 2] (by decide) rfl
                  refine r_forget [(1, vw), (2, .int .i64 i), (3, .pointer (some ⟨b4, 0, none⟩)), (7, .pointer (some ⟨b136, 0, none⟩)), (8, .int .i64 n42151), (11, .int .i64 e42151), (15, .int .i64 e68169)] ⟨rfl, rfl, rfl, rfl, rfl, rfl, rfl, trivial⟩ ?_
                  intro ρ223
                  refine r_region ?_
                  refine l_x rfl (x_load rfl (ld_blks (S222.blk 0 rfl) Try.isAgg24 Try.sizeOf24 rfl rfl)) ?_
                  refine l_x rfl (x_mv rfl) ?_
                  refine l_call [] [] [_, _] rfl rfl Try.call22 rfl (c_Greatest _ _ _ _ _ (by first | omega | (rw [unit_length]; omega) | (rw [List.length_map]; omega) | decide) _ (hA.le S222.le) (Hwl.le S222.le)) ?_
                  rintro _ w224 ⟨n86224, vx86224, x86224, vp86224, p86224, e86224, rfl, hO86224, hR86224⟩
                  have S225 := S222.join hO86224
                  have hb86224 := hR86224.bd
                  have hR2 := hR86224
                  refine l_x rfl (x_mv rfl) ?_
                  refine l_x rfl (x_extract rfl rfl) ?_
                  refine l_x rfl (x_extract rfl rfl) ?_
                  refine l_x rfl (x_extract rfl rfl) ?_
                  refine l_x rfl (x_extract rfl rfl) ?_
                  refine l_x rfl (x_as rfl) ?_
                  refine l_x rfl (x_as rfl) ?_
                  refine l_x rfl (x_as rfl) ?_
                  refine l_x rfl (x_as rfl) ?_
                  refine l_nil ?_
                  refine r_seq ?_
                  refine r_region ?_
                  refine l_x rfl (x_load rfl (ld_blks (S225.blk 0 rfl) Try.isAgg24 Try.sizeOf24 rfl rfl)) ?_
                  refine l_x rfl (x_mv rfl) ?_
                  refine l_call [] [] [_, _, _, _, _] rfl rfl Try.call20 rfl (c_Narrow2 _ _ _ _ _ _ _ _ (hA.le S225.le)) ?_
                  rintro _ w226 (⟨vh94226, rfl, hN94226, hl94226, hnE94226⟩ | ⟨vh94226, e94226, rfl, hN94226, hl94226, hnE94226, hn094226⟩)
                  · exact absurd (hnA.trans hnE94226) hn0A
                  · skip
                    have S227 := S225.add hl94226 hN94226
                    have hnB := hnE94226
                    refine l_x rfl (x_mv rfl) ?_
                    refine l_x rfl (x_extract rfl rfl) ?_
                    refine l_x rfl (x_extract rfl rfl) ?_
                    refine l_alloc S227 rfl Try.zeroValue24 rfl ?_
                    intro b231 w228 S229 hl230
                    refine l_stores (vs := [_, _]) S229 6 rfl rfl rfl rfl (ones_cons rfl (ones_cons (Rd.one (vec_rd (S229.at 5 rfl))) ones_nil)) Try.sizeOf24 (by first | exact Nat.le_refl _ | simp) (splice_all rfl) ?_
                    intro w232 S233 hk234
                    refine l_x rfl (x_as rfl) ?_
                    refine l_nil ?_
                    refine r_seq ?_
                    refine r_region ?_
                    refine l_call [] [] [] rfl rfl Try.call19 rfl (c_flowing _) ?_
                    rintro _ w235 ⟨rfl, hl237⟩
                    have S236 := S233.step hl237
                    refine l_x rfl (x_mv rfl) ?_
                    refine l_x rfl (x_load rfl (ld_blks (S236.blk 0 rfl) Try.isAgg24 Try.sizeOf24 rfl rfl)) ?_
                    refine l_x rfl (x_load rfl (ld_blks (S236.blk 2 rfl) Try.isAgg24 Try.sizeOf24 rfl rfl)) ?_
                    refine l_call [] [] [_, _] rfl rfl Try.call24 rfl (c_SameNet _ _ _ _ _ _ (by first | omega | (have h1 := nar_len (arcs := arcs) (i := i) (lo := 0) (hi := 1000000) (r := 1); omega)) _ (hA.le S236.le) (vec_rd (S236.at 1 rfl))) ?_
                    rintro _ w238 ⟨rfl, hl240⟩
                    have S239 := S236.step hl240
                    refine l_x rfl (x_pick_t rfl rfl) ?_
                    refine l_x rfl (x_mv rfl) ?_
                    refine l_splitd (d := 103) rfl (fun hg103 => ?_) (fun hg103 => ?_)
                    · skip
                      refine l_x rfl (x_mv rfl) ?_
                      refine l_x rfl (x_mv rfl) ?_
                      refine l_x rfl (x_eql rfl rfl) ?_
                      refine l_x rfl (x_pick_t rfl rfl) ?_
                      refine l_x rfl (x_mv rfl) ?_
                      refine l_splitd (d := 108) rfl (fun hg108 => ?_) (fun hg108 => ?_)
                      · skip
                        refine l_x rfl (x_mv rfl) ?_
                        refine l_x rfl (x_mv rfl) ?_
                        refine l_x rfl (x_eql rfl rfl) ?_
                        refine l_x rfl (x_pick_t rfl rfl) ?_
                        refine l_x rfl (x_mv rfl) ?_
                        refine l_splitd (d := 113) rfl (fun hg113 => ?_) (fun hg113 => ?_)
                        · skip
                          refine l_x rfl (x_mv rfl) ?_
                          refine l_x rfl (x_mv rfl) ?_
                          refine l_x rfl (x_eql rfl rfl) ?_
                          refine l_x rfl (x_pick_t rfl rfl) ?_
                          refine l_x rfl (x_mv rfl) ?_
                          refine l_splitd (d := 118) rfl (fun hg118 => ?_) (fun hg118 => ?_)
                          · skip
                            refine l_x rfl (x_mv rfl) ?_
                            refine l_x rfl (x_neq rfl rfl) ?_
                            refine l_x rfl (x_mv rfl) ?_
                            refine l_splitd (d := 121) rfl (fun hg121 => ?_) (fun hg121 => ?_)
                            · skip
                              refine l_pass rfl ?_
                              refine l_pass rfl ?_
                              refine l_pass rfl ?_
                              refine l_x rfl (x_pick_t rfl rfl) ?_
                              refine l_x rfl (x_pick_t rfl rfl) ?_
                              refine l_x rfl (x_as rfl) ?_
                              refine l_nil ?_
                              refine r_ret (rs := [.tmp 6]) [_] Try.func4 rfl ⟨rfl, trivial⟩ ?_
                              exact ⟨rfl, S239.le⟩
                            · exact absurd (Decidable.not_not.1 hg121) hn0A
                          · exact absurd (hnA.trans hnB.symm) hg118
                        · exact absurd (GrR.same hR1 hR2).2 hg113
                      · exact absurd (GrR.same hR1 hR2).1 hg108
                    · exact absurd ⟨rfl, rfl⟩ hg103
      · skip
        refine s_allocY S16 rfl Try.zeroValue24 rfl ?_
        intro b244 w241 S242 hl243 hb245
        refine ⟨.of_le hl243, ?_⟩
        have hy246 : Keep (yng w5) w5 w241 := hy17.trans (Keep.of_le hl243)
        refine e_next [2] (by kernel_rfl) (by kernel_rfl) ⟨⟨_, _, rfl, rfl, ?_⟩, trivial⟩
        refine s_buildSlice EA [] (Own.start (X := nob) w241) rfl Try.runUnderlying22 Try.sizeOf39 Try.zeroValue39 rfl trivial (by decide) ?_
        intro v251 w247 S248 hl250
        have hn252 := S248.new 0 rfl
        have S249 := S242.add hl250 hn252
        refine ⟨.of_le hl250, ?_⟩
        have hy253 : Keep (yng w5) w5 w247 := hy246.trans (Keep.of_le hl250)
        refine e_next [5] (by kernel_rfl) (by kernel_rfl) ⟨⟨_, _, rfl, rfl, ?_⟩, trivial⟩
        refine s_append EA (S249.lend 2 rfl) 0 rfl rfl rfl rfl (hA.le S249.le) Try.underlying22 info39 rfl rfl rfl (by unfold maxLen; rw [List.length_nil]; omega) (by show _ * 48 ≤ _; rw [List.length_nil]; omega) ?_
        intro v258 w254 S255 hk257 hv259
        have S256 := S249.back 2 rfl S255
        refine ⟨hk257.mono (fun c _ hc => Nat.le_trans hy246.size (hn252.bd c hc).1), ?_⟩
        have hy260 : Keep (yng w5) w5 w254 := hy253.trans (hk257.mono (fun c _ hc => Nat.le_trans hy246.size (hn252.bd c hc).1))
        refine e_exact 6 _ (by kernel_rfl) rfl rfl (by kernel_rfl) rfl (ex_x rfl (fun w1 h1 => x_buildS (out := [_, _]) (ss := [1, 1]) Try.zeroValue24 rfl Try.runUnderlying24 ⟨Try.sizeOf3, Try.sizeOf22, trivial⟩ (fill_cons rfl rfl rfl (Nat.le_of_ble_eq_true rfl) (fill_cons rfl (Rd.cells (vec_rd (S256.at 2 rfl))) rfl (Nat.le_of_ble_eq_true rfl) fill_nil)))) ?_
        refine e_done (by kernel_rfl) ?_
        refine l_stores (vs := [_, _]) S256 1 rfl rfl rfl rfl (ones_cons rfl (ones_cons (Rd.one (vec_rd (S256.at 2 rfl))) ones_nil)) Try.sizeOf24 (by first | exact Nat.le_refl _ | simp) (splice_all rfl) ?_
        intro w261 S262 hk263
        refine l_nil ?_
        refine r_seq ?_
        have S264 := S262.pick (L' := [_, _, _]) [0, 1, 2] (by decide) rfl
        refine r_forget [(1, vw), (2, .int .i64 i), (3, .pointer (some ⟨b4, 0, none⟩)), (7, .pointer (some ⟨b244, 0, none⟩))] ⟨rfl, rfl, rfl, rfl, trivial⟩ ?_
        intro ρ265
        refine r_region ?_
        refine l_x rfl (x_load rfl (ld_blks (S264.blk 0 rfl) Try.isAgg24 Try.sizeOf24 rfl rfl)) ?_
        refine l_x rfl (x_mv rfl) ?_
        refine l_call [] [] [_, _] rfl rfl Try.call22 rfl (c_Greatest _ _ _ _ _ (by first | omega | (rw [unit_length]; omega) | (rw [List.length_map]; omega) | decide) _ (hA.le S264.le) (Hwl.le S264.le)) ?_
        rintro _ w266 ⟨n42266, vx42266, x42266, vp42266, p42266, e42266, rfl, hO42266, hR42266⟩
        have S267 := S264.join hO42266
        have hb42266 := hR42266.bd
        have hR1 := hR42266
        have hln := hR42266.len
        refine l_x rfl (x_mv rfl) ?_
        refine l_x rfl (x_extract rfl rfl) ?_
        refine l_x rfl (x_extract rfl rfl) ?_
        refine l_x rfl (x_extract rfl rfl) ?_
        refine l_x rfl (x_extract rfl rfl) ?_
        refine l_x rfl (x_as rfl) ?_
        refine l_x rfl (x_as rfl) ?_
        refine l_x rfl (x_as rfl) ?_
        refine l_x rfl (x_as rfl) ?_
        refine l_nil ?_
        refine r_seq ?_
        refine r_seq ?_
        refine r_region ?_
        refine l_x rfl (x_as rfl) ?_
        refine l_nil ?_
        refine r_block ?_
        refine r_loop (G := Nat × List Int) (fun ⟨j, la⟩ => la.length - j) (fun ⟨j, la⟩ => [(1, vw), (2, .int .i64 i), (3, .pointer (some ⟨b4, 0, none⟩)), (7, .pointer (some ⟨b244, 0, none⟩)), (8, .int .i64 n42266), (11, .int .i64 e42266), (9, vx42266), (10, vp42266), (12, .int .i64 j)]) (fun ⟨j, la⟩ w' => (j ≤ la.length) ∧ (la.length = (x42266).length) ∧ Own nob w w' [blk b4 [.int .i64 N, va] 24, blk b244 [.int .i64 N, v258] 24, vec EA v258 arcs, vec EI vx42266 la, vec EI vp42266 p42266]) (0, x42266) ⟨rfl, rfl, rfl, rfl, rfl, rfl, rfl, rfl, rfl, trivial⟩ ⟨Nat.zero_le _, rfl, S267⟩ ?_
        rintro ⟨j, la⟩ ρ w1a ⟨hj, hl, S1a⟩ IHa
        refine r_seq ?_
        refine r_seq ?_
        refine r_region ?_
        refine l_x rfl (x_mv rfl) ?_
        refine l_x rfl (x_mv rfl) ?_
        refine l_x rfl (x_len (vec_rd (S1a.at 3 rfl)) rfl Try.runUnderlying25) ?_
        refine l_x rfl (x_lss rfl rfl) ?_
        refine l_nil ?_
        refine r_ifd rfl (fun hc50 => ?_) (fun hc50 => ?_)
        · skip
          refine r_skip ?_
          refine r_seq ?_
          refine r_block ?_
          refine r_region ?_
          refine l_x rfl (x_mv rfl) ?_
          refine l_x rfl (x_mv rfl) ?_
          refine l_index EI rfl (vec_rd (S1a.at 3 rfl)) rfl rfl Try.runUnderlying25 Try.sizeOf3 (by omega) (by first | assumption | exact List.getElem?_eq_getElem (by omega)) ?_
          intro b268 o269 hat270 row271
          refine l_storevi (f := 0) S1a 3 rfl rfl hat270 rfl rfl Try.sizeOf3 (by first | assumption | exact List.getElem?_eq_getElem (by omega)) (by decide) rfl ?_
          intro w272 S273 hk274
          refine l_nil ?_
          refine r_inBlock ?_
          refine r_region ?_
          refine l_x rfl (x_mv rfl) ?_
          refine l_x rfl (x_add rfl rfl (by omega)) ?_
          refine l_x rfl (x_as rfl) ?_
          refine l_nil ?_
          exact IHa (j + 1, la.set j (-7)) _ _ (by dsimp only; rw [List.length_set]; omega) ⟨rfl, rfl, rfl, rfl, rfl, rfl, rfl, rfl, rfl, trivial⟩ ⟨by rw [List.length_set]; omega, by rw [List.length_set]; exact hl, S273⟩
        · skip
          refine r_exit rfl ?_
          refine r_seq ?_
          refine r_seq ?_
          refine r_region ?_
          refine l_x rfl (x_as rfl) ?_
          refine l_nil ?_
          refine r_block ?_
          refine r_loop (G := Nat × List Int) (fun ⟨j, lb⟩ => lb.length - j) (fun ⟨j, lb⟩ => [(1, vw), (2, .int .i64 i), (3, .pointer (some ⟨b4, 0, none⟩)), (7, .pointer (some ⟨b244, 0, none⟩)), (8, .int .i64 n42266), (11, .int .i64 e42266), (10, vp42266), (13, .int .i64 j)]) (fun ⟨j, lb⟩ w' => (j ≤ lb.length) ∧ (lb.length = (p42266).length) ∧ Own nob w w' [blk b4 [.int .i64 N, va] 24, blk b244 [.int .i64 N, v258] 24, vec EA v258 arcs, vec EI vx42266 la, vec EI vp42266 lb]) (0, p42266) ⟨rfl, rfl, rfl, rfl, rfl, rfl, rfl, rfl, trivial⟩ ⟨Nat.zero_le _, rfl, S1a⟩ ?_
          rintro ⟨j, lb⟩ ρ w1b ⟨hj, hl, S1b⟩ IHb
          refine r_seq ?_
          refine r_seq ?_
          refine r_region ?_
          refine l_x rfl (x_mv rfl) ?_
          refine l_x rfl (x_mv rfl) ?_
          refine l_x rfl (x_len (vec_rd (S1b.at 4 rfl)) rfl Try.runUnderlying25) ?_
          refine l_x rfl (x_lss rfl rfl) ?_
          refine l_nil ?_
          refine r_ifd rfl (fun hc59 => ?_) (fun hc59 => ?_)
          · skip
            refine r_skip ?_
            refine r_seq ?_
            refine r_block ?_
            refine r_region ?_
            refine l_x rfl (x_mv rfl) ?_
            refine l_x rfl (x_mv rfl) ?_
            refine l_index EI rfl (vec_rd (S1b.at 4 rfl)) rfl rfl Try.runUnderlying25 Try.sizeOf3 (by omega) (by first | assumption | exact List.getElem?_eq_getElem (by omega)) ?_
            intro b275 o276 hat277 row278
            refine l_storevi (f := 0) S1b 4 rfl rfl hat277 rfl rfl Try.sizeOf3 (by first | assumption | exact List.getElem?_eq_getElem (by omega)) (by decide) rfl ?_
            intro w279 S280 hk281
            refine l_nil ?_
            refine r_inBlock ?_
            refine r_region ?_
            refine l_x rfl (x_mv rfl) ?_
            refine l_x rfl (x_add rfl rfl (by omega)) ?_
            refine l_x rfl (x_as rfl) ?_
            refine l_nil ?_
            exact IHb (j + 1, lb.set j (-7)) _ _ (by dsimp only; rw [List.length_set]; omega) ⟨rfl, rfl, rfl, rfl, rfl, rfl, rfl, rfl, trivial⟩ ⟨by rw [List.length_set]; omega, by rw [List.length_set]; exact hl, S280⟩
          · skip
            refine r_exit rfl ?_
            refine r_seq ?_
            have S282 := S1b.pick (L' := [_, _, _]) [0, 1, 2] (by decide) rfl
            refine r_forget [(1, vw), (2, .int .i64 i), (3, .pointer (some ⟨b4, 0, none⟩)), (7, .pointer (some ⟨b244, 0, none⟩)), (8, .int .i64 n42266), (11, .int .i64 e42266)] ⟨rfl, rfl, rfl, rfl, rfl, rfl, trivial⟩ ?_
            intro ρ283
            refine r_region ?_
            refine l_x rfl (x_load rfl (ld_blks (S282.blk 0 rfl) Try.isAgg24 Try.sizeOf24 rfl rfl)) ?_
            refine l_x rfl (x_mv rfl) ?_
            refine l_call [] [] [_, _, _, _, _] rfl rfl Try.call20 rfl (c_Narrow2 _ _ _ _ _ _ _ _ (hA.le S282.le)) ?_
            rintro _ w284 (⟨vh68284, rfl, hN68284, hl68284, hnE68284⟩ | ⟨vh68284, e68284, rfl, hN68284, hl68284, hnE68284, hn068284⟩)
            · skip
              have S285 := S282.add hl68284 hN68284
              have hnA := hnE68284
              have hnl := nar_len (arcs := arcs) (i := i) (lo := 0) (hi := 1000000) (r := 1)
              refine l_x rfl (x_mv rfl) ?_
              refine l_x rfl (x_extract rfl rfl) ?_
              refine l_x rfl (x_extract rfl rfl) ?_
              refine l_alloc S285 rfl Try.zeroValue24 rfl ?_
              intro b289 w286 S287 hl288
              refine l_stores (vs := [_, _]) S287 4 rfl rfl rfl rfl (ones_cons rfl (ones_cons (Rd.one (vec_rd (S287.at 3 rfl))) ones_nil)) Try.sizeOf24 (by first | exact Nat.le_refl _ | simp) (splice_all rfl) ?_
              intro w290 S291 hk292
              refine l_x rfl (x_as rfl) ?_
              refine l_nil ?_
              refine r_seq ?_
              refine r_seq ?_
              refine r_region ?_
              refine l_x rfl (x_as rfl) ?_
              refine l_nil ?_
              refine r_block ?_
              refine r_loop (G := Nat × List Arc) (fun ⟨j, lc⟩ => lc.length - j) (fun ⟨j, lc⟩ => [(1, vw), (2, .int .i64 i), (3, .pointer (some ⟨b4, 0, none⟩)), (7, .pointer (some ⟨b244, 0, none⟩)), (8, .int .i64 n42266), (11, .int .i64 e42266), (14, .pointer (some ⟨b289, 0, none⟩)), (15, .int .i64 0), (16, .int .i64 j)]) (fun ⟨j, lc⟩ w' => (j ≤ lc.length) ∧ (lc.length = (nar arcs i.toNat 0 1000000 1).length) ∧ Own nob w w' [blk b4 [.int .i64 N, va] 24, blk b244 [.int .i64 N, v258] 24, vec EA v258 arcs, vec EA vh68284 lc, blk b289 [.int .i64 N, vh68284] 24]) (0, nar arcs i.toNat 0 1000000 1) ⟨rfl, rfl, rfl, rfl, rfl, rfl, rfl, rfl, rfl, trivial⟩ ⟨Nat.zero_le _, rfl, S291⟩ ?_
              rintro ⟨j, lc⟩ ρ w1c ⟨hj, hl, S1c⟩ IHc
              refine r_seq ?_
              refine r_seq ?_
              refine r_region ?_
              refine l_x rfl (x_mv rfl) ?_
              refine l_x rfl (x_fieldAddr rfl Try.runUnderlying24 rfl Try.sizeOf22 (by decide)) ?_
              refine l_x rfl (x_load rfl (ld_blk (S1c.blk 4 rfl) Try.isAgg22 rfl)) ?_
              refine l_x rfl (x_len (vec_rd (S1c.at 3 rfl)) rfl Try.runUnderlying22) ?_
              refine l_x rfl (x_lss rfl rfl) ?_
              refine l_nil ?_
              refine r_ifd rfl (fun hc75 => ?_) (fun hc75 => ?_)
              · skip
                refine r_skip ?_
                refine r_seq ?_
                refine r_block ?_
                refine r_region ?_
                refine l_x rfl (x_fieldAddr rfl Try.runUnderlying24 rfl Try.sizeOf22 (by decide)) ?_
                refine l_x rfl (x_load rfl (ld_blk (S1c.blk 4 rfl) Try.isAgg22 rfl)) ?_
                refine l_x rfl (x_mv rfl) ?_
                refine l_x rfl (x_buildS (out := [_, _, _, _, _, _]) (ss := [1, 1, 1, 1, 1, 1]) Try.zeroValue39 rfl Try.runUnderlying39 ⟨Try.sizeOf3, Try.sizeOf3, Try.sizeOf3, Try.sizeOf3, Try.sizeOf3, Try.sizeOf3, trivial⟩ (fill_cons rfl rfl rfl (Nat.le_of_ble_eq_true rfl) fill_nil)) ?_
                refine l_index EA rfl (vec_rd (S1c.at 3 rfl)) rfl rfl Try.runUnderlying22 Try.sizeOf39 (by omega) (by first | assumption | exact List.getElem?_eq_getElem (by omega)) ?_
                intro b293 o294 hat295 row296
                refine l_storeva (a' := ⟨-7, 0, 0, 0, 0, 0⟩) S1c 3 rfl rfl hat295 rfl rfl Try.sizeOf39 (by first | assumption | exact List.getElem?_eq_getElem (by omega)) rfl ?_
                intro w297 S298 hk299
                refine l_nil ?_
                refine r_inBlock ?_
                refine r_region ?_
                refine l_x rfl (x_mv rfl) ?_
                refine l_x rfl (x_add rfl rfl (by omega)) ?_
                refine l_x rfl (x_as rfl) ?_
                refine l_nil ?_
                exact IHc (j + 1, lc.set j ⟨-7, 0, 0, 0, 0, 0⟩) _ _ (by dsimp only; rw [List.length_set]; omega) ⟨rfl, rfl, rfl, rfl, rfl, rfl, rfl, rfl, rfl, trivial⟩ ⟨by rw [List.length_set]; omega, by rw [List.length_set]; exact hl, S298⟩
              · skip
                refine r_exit rfl ?_
                refine r_seq ?_
                have S300 := S1c.pick (L' := [_, _, _]) [0, 1, 2] (by decide) rfl
                refine r_forget [(1, vw), (2, .int .i64 i), (3, .pointer (some ⟨b4, 0, none⟩)), (7, .pointer (some ⟨b244, 0, none⟩)), (8, .int .i64 n42266), (11, .int .i64 e42266), (15, .int .i64 0)] ⟨rfl, rfl, rfl, rfl, rfl, rfl, rfl, trivial⟩ ?_
                intro ρ301
                refine r_region ?_
                refine l_x rfl (x_load rfl (ld_blks (S300.blk 0 rfl) Try.isAgg24 Try.sizeOf24 rfl rfl)) ?_
                refine l_x rfl (x_mv rfl) ?_
                refine l_call [] [] [_, _] rfl rfl Try.call22 rfl (c_Greatest _ _ _ _ _ (by first | omega | (rw [unit_length]; omega) | (rw [List.length_map]; omega) | decide) _ (hA.le S300.le) (Hwl.le S300.le)) ?_
                rintro _ w302 ⟨n86302, vx86302, x86302, vp86302, p86302, e86302, rfl, hO86302, hR86302⟩
                have S303 := S300.join hO86302
                have hb86302 := hR86302.bd
                have hR2 := hR86302
                refine l_x rfl (x_mv rfl) ?_
                refine l_x rfl (x_extract rfl rfl) ?_
                refine l_x rfl (x_extract rfl rfl) ?_
                refine l_x rfl (x_extract rfl rfl) ?_
                refine l_x rfl (x_extract rfl rfl) ?_
                refine l_x rfl (x_as rfl) ?_
                refine l_x rfl (x_as rfl) ?_
                refine l_x rfl (x_as rfl) ?_
                refine l_x rfl (x_as rfl) ?_
                refine l_nil ?_
                refine r_seq ?_
                refine r_region ?_
                refine l_x rfl (x_load rfl (ld_blks (S303.blk 0 rfl) Try.isAgg24 Try.sizeOf24 rfl rfl)) ?_
                refine l_x rfl (x_mv rfl) ?_
                refine l_call [] [] [_, _, _, _, _] rfl rfl Try.call20 rfl (c_Narrow2 _ _ _ _ _ _ _ _ (hA.le S303.le)) ?_
                rintro _ w304 (⟨vh94304, rfl, hN94304, hl94304, hnE94304⟩ | ⟨vh94304, e94304, rfl, hN94304, hl94304, hnE94304, hn094304⟩)
                · skip
                  have S305 := S303.add hl94304 hN94304
                  have hnB := hnE94304
                  refine l_x rfl (x_mv rfl) ?_
                  refine l_x rfl (x_extract rfl rfl) ?_
                  refine l_x rfl (x_extract rfl rfl) ?_
                  refine l_alloc S305 rfl Try.zeroValue24 rfl ?_
                  intro b309 w306 S307 hl308
                  refine l_stores (vs := [_, _]) S307 6 rfl rfl rfl rfl (ones_cons rfl (ones_cons (Rd.one (vec_rd (S307.at 5 rfl))) ones_nil)) Try.sizeOf24 (by first | exact Nat.le_refl _ | simp) (splice_all rfl) ?_
                  intro w310 S311 hk312
                  refine l_x rfl (x_as rfl) ?_
                  refine l_nil ?_
                  refine r_seq ?_
                  refine r_region ?_
                  refine l_call [] [] [] rfl rfl Try.call19 rfl (c_flowing _) ?_
                  rintro _ w313 ⟨rfl, hl315⟩
                  have S314 := S311.step hl315
                  refine l_x rfl (x_mv rfl) ?_
                  refine l_x rfl (x_load rfl (ld_blks (S314.blk 0 rfl) Try.isAgg24 Try.sizeOf24 rfl rfl)) ?_
                  refine l_x rfl (x_load rfl (ld_blks (S314.blk 1 rfl) Try.isAgg24 Try.sizeOf24 rfl rfl)) ?_
                  refine l_call [] [] [_, _] rfl rfl Try.call24 rfl (c_SameNet _ _ _ _ _ _ (by first | omega | (have h1 := nar_len (arcs := arcs) (i := i) (lo := 0) (hi := 1000000) (r := 1); omega)) _ (hA.le S314.le) (vec_rd (S314.at 2 rfl))) ?_
                  rintro _ w316 ⟨rfl, hl318⟩
                  have S317 := S314.step hl318
                  refine l_x rfl (x_pick_t rfl rfl) ?_
                  refine l_x rfl (x_mv rfl) ?_
                  refine l_splitd (d := 103) rfl (fun hg103 => ?_) (fun hg103 => ?_)
                  · skip
                    refine l_x rfl (x_mv rfl) ?_
                    refine l_x rfl (x_mv rfl) ?_
                    refine l_x rfl (x_eql rfl rfl) ?_
                    refine l_x rfl (x_pick_t rfl rfl) ?_
                    refine l_x rfl (x_mv rfl) ?_
                    refine l_splitd (d := 108) rfl (fun hg108 => ?_) (fun hg108 => ?_)
                    · skip
                      refine l_x rfl (x_mv rfl) ?_
                      refine l_x rfl (x_mv rfl) ?_
                      refine l_x rfl (x_eql rfl rfl) ?_
                      refine l_x rfl (x_pick_t rfl rfl) ?_
                      refine l_x rfl (x_mv rfl) ?_
                      refine l_splitd (d := 113) rfl (fun hg113 => ?_) (fun hg113 => ?_)
                      · skip
                        refine l_x rfl (x_mv rfl) ?_
                        refine l_x rfl (x_mv rfl) ?_
                        refine l_x rfl (x_eql rfl rfl) ?_
                        refine l_x rfl (x_pick_t rfl rfl) ?_
                        refine l_x rfl (x_mv rfl) ?_
                        refine l_splitd (d := 118) rfl (fun hg118 => ?_) (fun hg118 => ?_)
                        · skip
                          refine l_x rfl (x_mv rfl) ?_
                          refine l_x rfl (x_neq rfl rfl) ?_
                          refine l_x rfl (x_mv rfl) ?_
                          refine l_splitd (d := 121) rfl (fun hg121 => ?_) (fun hg121 => ?_)
                          · exact absurd rfl hg121
                          · skip
                            refine l_x rfl (x_load rfl (ld_blks (S317.blk 6 rfl) Try.isAgg24 Try.sizeOf24 rfl rfl)) ?_
                            refine l_x rfl (x_load rfl (ld_blks (S317.blk 1 rfl) Try.isAgg24 Try.sizeOf24 rfl rfl)) ?_
                            refine l_call [] [] [_, _] rfl rfl Try.call24 rfl (c_SameNet _ _ _ _ _ _ (by first | omega | (have h1 := nar_len (arcs := arcs) (i := i) (lo := 0) (hi := 1000000) (r := 1); omega)) _ (vec_rd (S317.at 5 rfl)) (vec_rd (S317.at 2 rfl))) ?_
                            rintro _ w319 ⟨rfl, hl321⟩
                            have S320 := S317.step hl321
                            refine l_x rfl (x_pick_f rfl rfl) ?_
                            refine l_x rfl (x_pick_t rfl rfl) ?_
                            refine l_x rfl (x_as rfl) ?_
                            refine l_nil ?_
                            refine r_ret (rs := [.tmp 6]) [_] Try.func4 rfl ⟨rfl, trivial⟩ ?_
                            exact ⟨congrArg Value.bool (decide_eq_true ⟨rfl, nar_idle hnA⟩), S320.le⟩
                        · exact absurd rfl hg118
                      · exact absurd (GrR.same hR1 hR2).2 hg113
                    · exact absurd (GrR.same hR1 hR2).1 hg108
                  · exact absurd ⟨rfl, rfl⟩ hg103
                · exact absurd (hnE94304.trans hnA) hn094304
            · skip
              have S322 := S282.add hl68284 hN68284
              have hnA := hnE68284
              have hn0A := hn068284
              have hnl : ([] : List Arc).length = 0 := rfl
              refine l_x rfl (x_mv rfl) ?_
              refine l_x rfl (x_extract rfl rfl) ?_
              refine l_x rfl (x_extract rfl rfl) ?_
              refine l_alloc S322 rfl Try.zeroValue24 rfl ?_
              intro b326 w323 S324 hl325
              refine l_stores (vs := [_, _]) S324 4 rfl rfl rfl rfl (ones_cons rfl (ones_cons (Rd.one (vec_rd (S324.at 3 rfl))) ones_nil)) Try.sizeOf24 (by first | exact Nat.le_refl _ | simp) (splice_all rfl) ?_
              intro w327 S328 hk329
              refine l_x rfl (x_as rfl) ?_
              refine l_nil ?_
              refine r_seq ?_
              refine r_seq ?_
              refine r_region ?_
              refine l_x rfl (x_as rfl) ?_
              refine l_nil ?_
              refine r_block ?_
              refine r_loop (G := Nat × List Arc) (fun ⟨j, lc⟩ => lc.length - j) (fun ⟨j, lc⟩ => [(1, vw), (2, .int .i64 i), (3, .pointer (some ⟨b4, 0, none⟩)), (7, .pointer (some ⟨b244, 0, none⟩)), (8, .int .i64 n42266), (11, .int .i64 e42266), (14, .pointer (some ⟨b326, 0, none⟩)), (15, .int .i64 e68284), (16, .int .i64 j)]) (fun ⟨j, lc⟩ w' => (j ≤ lc.length) ∧ (lc.length = (([] : List Arc)).length) ∧ Own nob w w' [blk b4 [.int .i64 N, va] 24, blk b244 [.int .i64 N, v258] 24, vec EA v258 arcs, vec EA vh68284 lc, blk b326 [.int .i64 0, vh68284] 24]) (0, ([] : List Arc)) ⟨rfl, rfl, rfl, rfl, rfl, rfl, rfl, rfl, rfl, trivial⟩ ⟨Nat.zero_le _, rfl, S328⟩ ?_
              rintro ⟨j, lc⟩ ρ w1c ⟨hj, hl, S1c⟩ IHc
              refine r_seq ?_
              refine r_seq ?_
              refine r_region ?_
              refine l_x rfl (x_mv rfl) ?_
              refine l_x rfl (x_fieldAddr rfl Try.runUnderlying24 rfl Try.sizeOf22 (by decide)) ?_
              refine l_x rfl (x_load rfl (ld_blk (S1c.blk 4 rfl) Try.isAgg22 rfl)) ?_
              refine l_x rfl (x_len (vec_rd (S1c.at 3 rfl)) rfl Try.runUnderlying22) ?_
              refine l_x rfl (x_lss rfl rfl) ?_
              refine l_nil ?_
              refine r_ifd rfl (fun hc75 => ?_) (fun hc75 => ?_)
              · skip
                refine r_skip ?_
                refine r_seq ?_
                refine r_block ?_
                refine r_region ?_
                refine l_x rfl (x_fieldAddr rfl Try.runUnderlying24 rfl Try.sizeOf22 (by decide)) ?_
                refine l_x rfl (x_load rfl (ld_blk (S1c.blk 4 rfl) Try.isAgg22 rfl)) ?_
                refine l_x rfl (x_mv rfl) ?_
                refine l_x rfl (x_buildS (out := [_, _, _, _, _, _]) (ss := [1, 1, 1, 1, 1, 1]) Try.zeroValue39 rfl Try.runUnderlying39 ⟨Try.sizeOf3, Try.sizeOf3, Try.sizeOf3, Try.sizeOf3, Try.sizeOf3, Try.sizeOf3, trivial⟩ (fill_cons rfl rfl rfl (Nat.le_of_ble_eq_true rfl) fill_nil)) ?_
                refine l_index EA rfl (vec_rd (S1c.at 3 rfl)) rfl rfl Try.runUnderlying22 Try.sizeOf39 (by omega) (by first | assumption | exact List.getElem?_eq_getElem (by omega)) ?_
                intro b330 o331 hat332 row333
                refine l_storeva (a' := ⟨-7, 0, 0, 0, 0, 0⟩) S1c 3 rfl rfl hat332 rfl rfl Try.sizeOf39 (by first | assumption | exact List.getElem?_eq_getElem (by omega)) rfl ?_
                intro w334 S335 hk336
                refine l_nil ?_
                refine r_inBlock ?_
                refine r_region ?_
                refine l_x rfl (x_mv rfl) ?_
                refine l_x rfl (x_add rfl rfl (by omega)) ?_
                refine l_x rfl (x_as rfl) ?_
                refine l_nil ?_
                exact IHc (j + 1, lc.set j ⟨-7, 0, 0, 0, 0, 0⟩) _ _ (by dsimp only; rw [List.length_set]; omega) ⟨rfl, rfl, rfl, rfl, rfl, rfl, rfl, rfl, rfl, trivial⟩ ⟨by rw [List.length_set]; omega, by rw [List.length_set]; exact hl, S335⟩
              · skip
                refine r_exit rfl ?_
                refine r_seq ?_
                have S337 := S1c.pick (L' := [_, _, _]) [0, 1, 2] (by decide) rfl
                refine r_forget [(1, vw), (2, .int .i64 i), (3, .pointer (some ⟨b4, 0, none⟩)), (7, .pointer (some ⟨b244, 0, none⟩)), (8, .int .i64 n42266), (11, .int .i64 e42266), (15, .int .i64 e68284)] ⟨rfl, rfl, rfl, rfl, rfl, rfl, rfl, trivial⟩ ?_
                intro ρ338
                refine r_region ?_
                refine l_x rfl (x_load rfl (ld_blks (S337.blk 0 rfl) Try.isAgg24 Try.sizeOf24 rfl rfl)) ?_
                refine l_x rfl (x_mv rfl) ?_
                refine l_call [] [] [_, _] rfl rfl Try.call22 rfl (c_Greatest _ _ _ _ _ (by first | omega | (rw [unit_length]; omega) | (rw [List.length_map]; omega) | decide) _ (hA.le S337.le) (Hwl.le S337.le)) ?_
                rintro _ w339 ⟨n86339, vx86339, x86339, vp86339, p86339, e86339, rfl, hO86339, hR86339⟩
                have S340 := S337.join hO86339
                have hb86339 := hR86339.bd
                have hR2 := hR86339
                refine l_x rfl (x_mv rfl) ?_
                refine l_x rfl (x_extract rfl rfl) ?_
                refine l_x rfl (x_extract rfl rfl) ?_
                refine l_x rfl (x_extract rfl rfl) ?_
                refine l_x rfl (x_extract rfl rfl) ?_
                refine l_x rfl (x_as rfl) ?_
                refine l_x rfl (x_as rfl) ?_
                refine l_x rfl (x_as rfl) ?_
                refine l_x rfl (x_as rfl) ?_
                refine l_nil ?_
                refine r_seq ?_
                refine r_region ?_
                refine l_x rfl (x_load rfl (ld_blks (S340.blk 0 rfl) Try.isAgg24 Try.sizeOf24 rfl rfl)) ?_
                refine l_x rfl (x_mv rfl) ?_
                refine l_call [] [] [_, _, _, _, _] rfl rfl Try.call20 rfl (c_Narrow2 _ _ _ _ _ _ _ _ (hA.le S340.le)) ?_
                rintro _ w341 (⟨vh94341, rfl, hN94341, hl94341, hnE94341⟩ | ⟨vh94341, e94341, rfl, hN94341, hl94341, hnE94341, hn094341⟩)
                · exact absurd (hnA.trans hnE94341) hn0A
                · skip
                  have S342 := S340.add hl94341 hN94341
                  have hnB := hnE94341
                  refine l_x rfl (x_mv rfl) ?_
                  refine l_x rfl (x_extract rfl rfl) ?_
                  refine l_x rfl (x_extract rfl rfl) ?_
                  refine l_alloc S342 rfl Try.zeroValue24 rfl ?_
                  intro b346 w343 S344 hl345
                  refine l_stores (vs := [_, _]) S344 6 rfl rfl rfl rfl (ones_cons rfl (ones_cons (Rd.one (vec_rd (S344.at 5 rfl))) ones_nil)) Try.sizeOf24 (by first | exact Nat.le_refl _ | simp) (splice_all rfl) ?_
                  intro w347 S348 hk349
                  refine l_x rfl (x_as rfl) ?_
                  refine l_nil ?_
                  refine r_seq ?_
                  refine r_region ?_
                  refine l_call [] [] [] rfl rfl Try.call19 rfl (c_flowing _) ?_
                  rintro _ w350 ⟨rfl, hl352⟩
                  have S351 := S348.step hl352
                  refine l_x rfl (x_mv rfl) ?_
                  refine l_x rfl (x_load rfl (ld_blks (S351.blk 0 rfl) Try.isAgg24 Try.sizeOf24 rfl rfl)) ?_
                  refine l_x rfl (x_load rfl (ld_blks (S351.blk 1 rfl) Try.isAgg24 Try.sizeOf24 rfl rfl)) ?_
                  refine l_call [] [] [_, _] rfl rfl Try.call24 rfl (c_SameNet _ _ _ _ _ _ (by first | omega | (have h1 := nar_len (arcs := arcs) (i := i) (lo := 0) (hi := 1000000) (r := 1); omega)) _ (hA.le S351.le) (vec_rd (S351.at 2 rfl))) ?_
                  rintro _ w353 ⟨rfl, hl355⟩
                  have S354 := S351.step hl355
                  refine l_x rfl (x_pick_t rfl rfl) ?_
                  refine l_x rfl (x_mv rfl) ?_
                  refine l_splitd (d := 103) rfl (fun hg103 => ?_) (fun hg103 => ?_)
                  · skip
                    refine l_x rfl (x_mv rfl) ?_
                    refine l_x rfl (x_mv rfl) ?_
                    refine l_x rfl (x_eql rfl rfl) ?_
                    refine l_x rfl (x_pick_t rfl rfl) ?_
                    refine l_x rfl (x_mv rfl) ?_
                    refine l_splitd (d := 108) rfl (fun hg108 => ?_) (fun hg108 => ?_)
                    · skip
                      refine l_x rfl (x_mv rfl) ?_
                      refine l_x rfl (x_mv rfl) ?_
                      refine l_x rfl (x_eql rfl rfl) ?_
                      refine l_x rfl (x_pick_t rfl rfl) ?_
                      refine l_x rfl (x_mv rfl) ?_
                      refine l_splitd (d := 113) rfl (fun hg113 => ?_) (fun hg113 => ?_)
                      · skip
                        refine l_x rfl (x_mv rfl) ?_
                        refine l_x rfl (x_mv rfl) ?_
                        refine l_x rfl (x_eql rfl rfl) ?_
                        refine l_x rfl (x_pick_t rfl rfl) ?_
                        refine l_x rfl (x_mv rfl) ?_
                        refine l_splitd (d := 118) rfl (fun hg118 => ?_) (fun hg118 => ?_)
                        · skip
                          refine l_x rfl (x_mv rfl) ?_
                          refine l_x rfl (x_neq rfl rfl) ?_
                          refine l_x rfl (x_mv rfl) ?_
                          refine l_splitd (d := 121) rfl (fun hg121 => ?_) (fun hg121 => ?_)
                          · skip
                            refine l_pass rfl ?_
                            refine l_pass rfl ?_
                            refine l_pass rfl ?_
                            refine l_x rfl (x_pick_t rfl rfl) ?_
                            refine l_x rfl (x_pick_t rfl rfl) ?_
                            refine l_x rfl (x_as rfl) ?_
                            refine l_nil ?_
                            refine r_ret (rs := [.tmp 6]) [_] Try.func4 rfl ⟨rfl, trivial⟩ ?_
                            exact ⟨rfl, S354.le⟩
                          · exact absurd (Decidable.not_not.1 hg121) hn0A
                        · exact absurd (hnA.trans hnB.symm) hg118
                      · exact absurd (GrR.same hR1 hR2).2 hg113
                    · exact absurd (GrR.same hR1 hR2).1 hg108
                  · exact absurd ⟨rfl, rfl⟩ hg103

end Go.Proofs

/-
  The statement of FlowMemory: for every input the law returns true, and its arguments read as they did. No condition.
-/
namespace Go.Proofs
open Go Go.Vk Go.Vk.Flow

open Go.ChangeShapes Go.WideShapes Go.RowKit Go.Joins
namespace Ytddapgjjndbejaa
set_option maxRecDepth 100000 in
theorem liftedMemory (os : Os) (started : os.Started) (H : Type) (enc : TypeId × Value → H) :
    ReturnsInHanded {} Try.checked os 4 .any (Rows.flowMemorySpec.pre6 enc Try.prog Try.f4 Rows.flowMemoryRow.domain false) (Rows.flowMemorySpec.post enc Try.prog Try.f4 false true false false) := by
  refine returnsInHanded_of_change (C := Try.checked) ownT started (by kernel_rfl) Try.func4
    (ChangeSpec.witness6 (enc := enc) (C := Try.checked) false ⟨#[], #[.agg #[.int .i64 0, .slice none 0 0], .slice none 0 0, .int .i64 0], []⟩ 8 (by kernel_rfl) (by kernel_rfl) (by kernel_rfl) (by kernel_rfl)) ?_
  intro W base args ds gs before hval0 hW hcnd _
  have hval : ∀ (j : Nat) t v, Try.f4.params[j]? = some t → args[j]? = some v → Value.okWide Try.prog W .any base t v := hval0
  have hW' := hW
  obtain ⟨p, q, hA0, hV, rfl, hfz, hnd⟩ := hW
  have hA : DataW.TrodAll enc Try.prog W 0 (fun _ => true) true Try.f4.params.toList args.toList ds p := hA0
  rw [Try.params4] at hA hval
  obtain ⟨v0, vs0, d0, ds0, p0, q0, hargs, rfl, rfl, h0, r0⟩ := trodAll_cons hA
  obtain ⟨v1, vs1, d1, ds1, p1, q1, rfl, rfl, rfl, h1, r1⟩ := trodAll_cons r0
  obtain ⟨v2, vs2, d2, ds2, p2, q2, rfl, rfl, rfl, h2, r2⟩ := trodAll_cons r1
  obtain ⟨rfl, rfl, rfl⟩ := trodAll_nil r2
  obtain rfl : args = #[v0, v1, v2] := by cases args; simp_all
  obtain ⟨rfl, rfl⟩ := trodVars_none hV
  obtain ⟨N0, va0, arcs0, rfl, hQ0, hm0⟩ := openNet (hval 0 24 v0 rfl rfl) h0
  obtain ⟨l1, hQ1, hm1⟩ := openInts (hval 1 25 v1 rfl rfl) h1
  obtain ⟨i2, rfl, rfl, rfl, w2⟩ := open_int Try.underlying3 (hval 2 3 v2 rfl rfl) h2
  clear hA0 hval0
  exact (lawMemory N0 va0 arcs0 _ l1 i2 W hQ0 hQ1).mono fun v W' ⟨hv, hle⟩ => by
    subst hv
    exact post_law hW' laidT (by rw [Try.params4]; exact fun t ht => by revert t; decide +kernel) (by kernel_rfl) Try.underlying4 rfl rfl rfl rfl hle
/-- FlowMemory: whatever the input, the law returns true, and its arguments read as they did. -/
theorem flowMemory : Rows.FlowMemorySaid :=
  OpenClaim.holds_of_wide 4 Try.f4 rfl rfl rfl rfl rfl rfl rfl ⟨rfl, rfl, rfl, rfl, rfl⟩ rfl rfl rfl rfl rfl (by kernel_rfl) Try.func4 (by kernel_rfl)
    (of_decide_eq_true (by kernel_rfl)) (by unfold Func.isWrapper; rw [if_neg (of_decide_eq_false (by kernel_rfl))]; exact ⟨rfl, rfl⟩)
    (fun os started H enc _ => liftedMemory os started H enc)
#print axioms flowMemory
end Ytddapgjjndbejaa

end Go.Proofs
