/-
  The statement of FlowSharp: for every input the law returns true, and its arguments read as they did. No condition.
-/
import Derived.Test.YtddapgjjndbejaaKg
/-
  Contracts of functions of the program: each by symbolic execution of its text.
-/
namespace Go.Proofs
open Go Go.Vk Go.Vk.Flow

set_option maxHeartbeats 4000000 in
/-- couchant/couchantlaw06.FlowSharp. -/
theorem lawSharp (N : Int) (va : Value) (arcs : List Arc) (i k : Int) (w : World) (hA : Rd EA w va arcs) :
    Cl Try.prog 14 #[.agg #[.int .i64 N, va], .int .i64 i, .int .i64 k] w fun v w' => v = .bool true ∧ Le w w' := by
  refine fn_of_run (args := [_, _, _]) 194 Try.func14 rfl rfl rfl fun cs => ?_
  have S := Own.start (X := nob) w
  refine r_seq ?_
  refine r_region ?_
  refine l_box S rfl rfl ?_
  intro b4 w1 S2 hl3
  refine l_x rfl (x_as rfl) ?_
  refine l_nil ?_
  refine r_seq ?_
  refine r_seq ?_
  refine r_region ?_
  refine l_x rfl (x_load rfl (ld_blks (S2.blk 0 rfl) Try.isAgg24 Try.sizeOf24 rfl rfl)) ?_
  refine l_call [] [] [_] rfl rfl Try.call18 rfl (c_small _ _ _ _ (hA.le S2.le)) ?_
  rintro _ w5 ⟨rfl, hl7⟩
  have S6 := S2.step hl7
  refine l_x rfl (x_not rfl) ?_
  refine l_nil ?_
  refine r_if rfl (fun hc30 => ?_) (fun hc30 => ?_)
  · skip
    refine r_seq ?_
    refine r_region ?_
    refine l_call [] [] [] rfl rfl Try.call19 rfl (c_flowing _) ?_
    rintro _ w8 ⟨rfl, hl10⟩
    have S9 := S6.step hl10
    refine l_x rfl (x_as rfl) ?_
    refine l_nil ?_
    refine r_ret (rs := [.tmp 6]) [_] Try.func14 rfl ⟨rfl, trivial⟩ ?_
    exact ⟨rfl, S9.le⟩
  · skip
    refine r_skip ?_
    refine r_seq ?_
    have hLs := smallB_le (N := N) (n := arcs.length) (by simpa using hc30)
    refine r_region ?_
    refine l_x rfl (x_load rfl (ld_blks (S6.blk 0 rfl) Try.isAgg24 Try.sizeOf24 rfl rfl)) ?_
    refine l_x rfl (x_mv rfl) ?_
    refine l_call [] [] [_, _] rfl rfl Try.call23 rfl (c_Range _ _ _ _ _ (hA.le S6.le)) ?_
    rintro _ w11 ⟨lo3511, hi3511, e3511, rfl, hl3511, hR3511⟩
    have S12 := S6.step hl3511
    have hRA := hR3511
    have hbd := hR3511.bd
    refine l_x rfl (x_mv rfl) ?_
    refine l_x rfl (x_extract rfl rfl) ?_
    refine l_x rfl (x_extract rfl rfl) ?_
    refine l_x rfl (x_extract rfl rfl) ?_
    refine l_x rfl (x_as rfl) ?_
    refine l_x rfl (x_as rfl) ?_
    refine l_x rfl (x_as rfl) ?_
    refine l_nil ?_
    refine r_seq ?_
    refine r_seq ?_
    refine r_region ?_
    refine l_x rfl (x_mv rfl) ?_
    refine l_x rfl (x_neq rfl rfl) ?_
    refine l_nil ?_
    refine r_ifd rfl (fun hc40 => ?_) (fun hc40 => ?_)
    · skip
      refine r_seq ?_
      refine r_region ?_
      refine l_x rfl (x_load rfl (ld_blks (S12.blk 0 rfl) Try.isAgg24 Try.sizeOf24 rfl rfl)) ?_
      refine l_x rfl (x_mv rfl) ?_
      refine l_x rfl (x_mv rfl) ?_
      refine l_call [] [] [_, _, _] rfl rfl Try.call55 rfl (c_Through2 _ _ _ _ _ _ (hA.le S12.le)) ?_
      rintro _ w13 (⟨vx4513, x4513, e4513, rfl, hN4513, hl4513, hR4513⟩ | ⟨vx4513, x4513, e4513, rfl, hN4513, hl4513, hR4513⟩)
      · exact absurd (sharp1 hRA hR4513 hc40).2 (by decide)
      · skip
        have S14 := S12.add hl4513 hN4513
        have hs := (sharp1 hRA hR4513 hc40).1
        refine l_x rfl (x_mv rfl) ?_
        refine l_x rfl (x_extract rfl rfl) ?_
        refine l_x rfl (x_extract rfl rfl) ?_
        refine l_x rfl (x_extract rfl rfl) ?_
        refine l_x rfl (x_as rfl) ?_
        refine l_x rfl (x_as rfl) ?_
        refine l_x rfl (x_as rfl) ?_
        refine l_nil ?_
        refine r_seq ?_
        refine r_region ?_
        refine l_call [] [] [] rfl rfl Try.call19 rfl (c_flowing _) ?_
        rintro _ w15 ⟨rfl, hl17⟩
        have S16 := S14.step hl17
        refine l_x rfl (x_mv rfl) ?_
        refine l_x rfl (x_mv rfl) ?_
        refine l_x rfl (x_eql rfl rfl) ?_
        refine l_x rfl (x_pick_t rfl rfl) ?_
        refine l_x rfl (x_mv rfl) ?_
        refine l_splitd (d := 54) rfl (fun hg54 => ?_) (fun hg54 => ?_)
        · skip
          refine l_x rfl (x_mv rfl) ?_
          refine l_x rfl (x_eql rfl rfl) ?_
          refine l_x rfl (x_pick_t rfl rfl) ?_
          refine l_x rfl (x_mv rfl) ?_
          refine l_splitd (d := 58) rfl (fun hg58 => ?_) (fun hg58 => ?_)
          · skip
            refine l_x rfl (x_mv rfl) ?_
            refine l_x rfl (x_not rfl) ?_
            refine l_x rfl (x_pick_t rfl rfl) ?_
            refine l_x rfl (x_mv rfl) ?_
            refine l_x rfl (x_mv rfl) ?_
            refine l_x rfl (x_len (vec_rd (S16.at 1 rfl)) rfl Try.runUnderlying25) ?_
            refine l_x rfl (x_eql rfl rfl) ?_
            refine l_x rfl (x_pick_t rfl rfl) ?_
            refine l_x rfl (x_mv rfl) ?_
            refine l_splitd (d := 67) rfl (fun hg67 => ?_) (fun hg67 => ?_)
            · skip
              refine l_x rfl (x_mv rfl) ?_
              refine l_x rfl (x_mv rfl) ?_
              refine l_x rfl (x_eql rfl rfl) ?_
              refine l_x rfl (x_mv rfl) ?_
              refine l_splitd (d := 71) rfl (fun hg71 => ?_) (fun hg71 => ?_)
              · skip
                refine l_pass rfl ?_
                refine l_pass rfl ?_
                refine l_pass rfl ?_
                refine l_pass rfl ?_
                refine l_pass rfl ?_
                refine l_pass rfl ?_
                refine l_x rfl (x_pick_t rfl rfl) ?_
                refine l_x rfl (x_pick_t rfl rfl) ?_
                refine l_x rfl (x_as rfl) ?_
                refine l_nil ?_
                refine r_ret (rs := [.tmp 6]) [_] Try.func14 rfl ⟨rfl, trivial⟩ ?_
                exact ⟨rfl, S16.le⟩
              · skip
                refine l_x rfl (x_mv rfl) ?_
                refine l_x rfl (x_eql rfl rfl) ?_
                refine l_x rfl (x_mv rfl) ?_
                refine l_splitd (d := 74) rfl (fun hg74 => ?_) (fun hg74 => ?_)
                · skip
                  refine l_x rfl (x_mv rfl) ?_
                  refine l_x rfl (x_eql rfl rfl) ?_
                  refine l_x rfl (x_pick_t rfl rfl) ?_
                  refine l_x rfl (x_pick_f rfl rfl) ?_
                  refine l_x rfl (x_pick_t rfl rfl) ?_
                  refine l_x rfl (x_as rfl) ?_
                  refine l_nil ?_
                  refine r_ret (rs := [.tmp 6]) [_] Try.func14 rfl ⟨rfl, trivial⟩ ?_
                  exact ⟨congrArg Value.bool (decide_eq_true (by omega)), S16.le⟩
                · skip
                  refine l_pass rfl ?_
                  refine l_pass rfl ?_
                  refine l_x rfl (x_pick_f rfl rfl) ?_
                  refine l_x rfl (x_pick_f rfl rfl) ?_
                  refine l_x rfl (x_pick_t rfl rfl) ?_
                  refine l_x rfl (x_as rfl) ?_
                  refine l_nil ?_
                  refine r_ret (rs := [.tmp 6]) [_] Try.func14 rfl ⟨rfl, trivial⟩ ?_
                  exact ⟨congrArg Value.bool (by exfalso; omega), S16.le⟩
            · skip
              refine l_pass rfl ?_
              refine l_pass rfl ?_
              refine l_pass rfl ?_
              refine l_pass rfl ?_
              refine l_pass rfl ?_
              refine l_pass rfl ?_
              refine l_pass rfl ?_
              refine l_pass rfl ?_
              refine l_pass rfl ?_
              refine l_pass rfl ?_
              refine l_pass rfl ?_
              refine l_x rfl (x_pick_f rfl rfl) ?_
              refine l_x rfl (x_as rfl) ?_
              refine l_nil ?_
              refine r_ret (rs := [.tmp 6]) [_] Try.func14 rfl ⟨rfl, trivial⟩ ?_
              exact ⟨congrArg Value.bool (by exfalso; omega), S16.le⟩
          · skip
            refine l_pass rfl ?_
            refine l_pass rfl ?_
            refine l_x rfl (x_pick_f rfl rfl) ?_
            refine l_x rfl (x_mv rfl) ?_
            refine l_pass rfl ?_
            refine l_pass rfl ?_
            refine l_pass rfl ?_
            refine l_x rfl (x_pick_f rfl rfl) ?_
            refine l_x rfl (x_mv rfl) ?_
            refine l_pass rfl ?_
            refine l_pass rfl ?_
            refine l_pass rfl ?_
            refine l_pass rfl ?_
            refine l_pass rfl ?_
            refine l_pass rfl ?_
            refine l_pass rfl ?_
            refine l_pass rfl ?_
            refine l_pass rfl ?_
            refine l_pass rfl ?_
            refine l_pass rfl ?_
            refine l_x rfl (x_pick_f rfl rfl) ?_
            refine l_x rfl (x_as rfl) ?_
            refine l_nil ?_
            refine r_ret (rs := [.tmp 6]) [_] Try.func14 rfl ⟨rfl, trivial⟩ ?_
            exact ⟨congrArg Value.bool (by exfalso; omega), S16.le⟩
        · skip
          refine l_pass rfl ?_
          refine l_pass rfl ?_
          refine l_x rfl (x_pick_f rfl rfl) ?_
          refine l_x rfl (x_mv rfl) ?_
          refine l_pass rfl ?_
          refine l_pass rfl ?_
          refine l_x rfl (x_pick_f rfl rfl) ?_
          refine l_x rfl (x_mv rfl) ?_
          refine l_pass rfl ?_
          refine l_pass rfl ?_
          refine l_pass rfl ?_
          refine l_x rfl (x_pick_f rfl rfl) ?_
          refine l_x rfl (x_mv rfl) ?_
          refine l_pass rfl ?_
          refine l_pass rfl ?_
          refine l_pass rfl ?_
          refine l_pass rfl ?_
          refine l_pass rfl ?_
          refine l_pass rfl ?_
          refine l_pass rfl ?_
          refine l_pass rfl ?_
          refine l_pass rfl ?_
          refine l_pass rfl ?_
          refine l_pass rfl ?_
          refine l_x rfl (x_pick_f rfl rfl) ?_
          refine l_x rfl (x_as rfl) ?_
          refine l_nil ?_
          refine r_ret (rs := [.tmp 6]) [_] Try.func14 rfl ⟨rfl, trivial⟩ ?_
          exact ⟨congrArg Value.bool (by exfalso; omega), S16.le⟩
    · skip
      have he0 := Decidable.not_not.1 hc40
      obtain ⟨hV, hi0, hi1⟩ := hRA.ask he0
      have hLx := hV.len
      refine r_skip ?_
      refine r_seq ?_
      refine r_drawE 14 nob Try.mixed (by kernel_rfl) ?_
      intro w18 hl19
      have S20 := S12.step hl19
      refine e_exact 0 _ (by kernel_rfl) rfl rfl (by kernel_rfl) rfl (ex_x rfl (fun w1 h1 => x_load rfl (ld_blks ((S20.step h1).blk 0 rfl) Try.isAgg24 Try.sizeOf24 rfl rfl))) ?_
      refine e_exact 1 _ (by kernel_rfl) rfl rfl (by kernel_rfl) rfl (ex_x rfl (fun w1 h1 => x_load rfl (ld_blks ((S20.step h1).blk 0 rfl) Try.isAgg24 Try.sizeOf24 rfl rfl))) ?_
      refine e_exact 2 _ (by kernel_rfl) rfl rfl (by kernel_rfl) rfl (ex_x rfl (fun w1 h1 => x_mv rfl)) ?_
      refine e_next [3] (by kernel_rfl) (by kernel_rfl) ⟨⟨_, _, rfl, rfl, ?_⟩, trivial⟩
      refine s_callf [] [] [_, _, _] rfl rfl Try.call56 rfl ((c_rUnitOk _ _ _ _ _ (by omega) ⟨hi0, hi1⟩ _ (hA.le S20.le)).mono ?_)
      rintro v8421 w21 ⟨hN8421, hl8421⟩
      have S22 := S20.add hl8421 hN8421
      refine ⟨.of_le hl8421, ?_⟩
      refine e_next [4] (by kernel_rfl) (by kernel_rfl) ⟨⟨_, _, rfl, rfl, ?_⟩, trivial⟩
      refine s_callf [] [] [_, _] rfl rfl Try.call22 rfl ((c_Greatest _ _ _ _ _ (by first | omega | (rw [unit_length]; omega) | (rw [List.length_map]; omega) | decide) _ (hA.le S22.le) (vec_rd (S22.at 1 rfl))).mono ?_)
      rintro _ w23 ⟨n8523, vx8523, x8523, vp8523, p8523, e8523, rfl, hO8523, hR8523⟩
      have S24 := S22.join hO8523
      refine ⟨.of_le hO8523.le, ?_⟩
      obtain ⟨hf1, hn1⟩ := sharp2 hRA he0 hR8523
      refine e_exact 5 _ (by kernel_rfl) rfl rfl (by kernel_rfl) rfl (ex_x rfl (fun w1 h1 => x_mv rfl)) ?_
      refine e_exact 6 _ (by kernel_rfl) rfl rfl (by kernel_rfl) rfl (ex_x rfl (fun w1 h1 => x_extract rfl rfl)) ?_
      refine e_exact 7 _ (by kernel_rfl) rfl rfl (by kernel_rfl) rfl (ex_x rfl (fun w1 h1 => x_extract rfl rfl)) ?_
      refine e_exact 8 _ (by kernel_rfl) rfl rfl (by kernel_rfl) rfl (ex_x rfl (fun w1 h1 => x_extract rfl rfl)) ?_
      refine e_exact 9 _ (by kernel_rfl) rfl rfl (by kernel_rfl) rfl (ex_x rfl (fun w1 h1 => x_extract rfl rfl)) ?_
      refine e_exact 10 _ (by kernel_rfl) rfl rfl (by kernel_rfl) rfl (ex_x rfl (fun w1 h1 => x_as rfl)) ?_
      refine e_exact 11 _ (by kernel_rfl) rfl rfl (by kernel_rfl) rfl (ex_x rfl (fun w1 h1 => x_as rfl)) ?_
      refine e_exact 12 _ (by kernel_rfl) rfl rfl (by kernel_rfl) rfl (ex_x rfl (fun w1 h1 => x_as rfl)) ?_
      refine e_exact 13 _ (by kernel_rfl) rfl rfl (by kernel_rfl) rfl (ex_x rfl (fun w1 h1 => x_as rfl)) ?_
      refine e_done (by kernel_rfl) ?_
      refine l_nil ?_
      refine r_seq ?_
      refine r_drawE 14 nob Try.mixed (by kernel_rfl) ?_
      intro w25 hl26
      have S27 := S24.step hl26
      refine e_exact 0 _ (by kernel_rfl) rfl rfl (by kernel_rfl) rfl (ex_x rfl (fun w1 h1 => x_load rfl (ld_blks ((S27.step h1).blk 0 rfl) Try.isAgg24 Try.sizeOf24 rfl rfl))) ?_
      refine e_exact 1 _ (by kernel_rfl) rfl rfl (by kernel_rfl) rfl (ex_x rfl (fun w1 h1 => x_load rfl (ld_blks ((S27.step h1).blk 0 rfl) Try.isAgg24 Try.sizeOf24 rfl rfl))) ?_
      refine e_exact 2 _ (by kernel_rfl) rfl rfl (by kernel_rfl) rfl (ex_x rfl (fun w1 h1 => x_mv rfl)) ?_
      refine e_next [3] (by kernel_rfl) (by kernel_rfl) ⟨⟨_, _, rfl, rfl, ?_⟩, trivial⟩
      refine s_callf [] [] [_, _, _] rfl rfl Try.call56 rfl ((c_rUnitOk _ _ _ _ _ (by omega) ⟨hi0, hi1⟩ _ (hA.le S27.le)).mono ?_)
      rintro v9428 w28 ⟨hN9428, hl9428⟩
      have S29 := S27.add hl9428 hN9428
      refine ⟨.of_le hl9428, ?_⟩
      refine e_next [4] (by kernel_rfl) (by kernel_rfl) ⟨⟨_, _, rfl, rfl, ?_⟩, trivial⟩
      refine s_callf [] [] [_, _] rfl rfl Try.call42 rfl ((c_Least _ _ _ _ _ (by first | omega | (rw [unit_length]; omega) | (rw [List.length_map]; omega) | decide) _ (hA.le S29.le) (vec_rd (S29.at 4 rfl))).mono ?_)
      rintro _ w30 ⟨n9530, vx9530, x9530, vp9530, p9530, e9530, rfl, hO9530, hR9530⟩
      have S31 := S29.join hO9530
      refine ⟨.of_le hO9530.le, ?_⟩
      obtain ⟨hf2, hn2⟩ := sharp3 hRA he0 hR9530
      refine e_exact 5 _ (by kernel_rfl) rfl rfl (by kernel_rfl) rfl (ex_x rfl (fun w1 h1 => x_mv rfl)) ?_
      refine e_exact 6 _ (by kernel_rfl) rfl rfl (by kernel_rfl) rfl (ex_x rfl (fun w1 h1 => x_extract rfl rfl)) ?_
      refine e_exact 7 _ (by kernel_rfl) rfl rfl (by kernel_rfl) rfl (ex_x rfl (fun w1 h1 => x_extract rfl rfl)) ?_
      refine e_exact 8 _ (by kernel_rfl) rfl rfl (by kernel_rfl) rfl (ex_x rfl (fun w1 h1 => x_extract rfl rfl)) ?_
      refine e_exact 9 _ (by kernel_rfl) rfl rfl (by kernel_rfl) rfl (ex_x rfl (fun w1 h1 => x_extract rfl rfl)) ?_
      refine e_exact 10 _ (by kernel_rfl) rfl rfl (by kernel_rfl) rfl (ex_x rfl (fun w1 h1 => x_as rfl)) ?_
      refine e_exact 11 _ (by kernel_rfl) rfl rfl (by kernel_rfl) rfl (ex_x rfl (fun w1 h1 => x_as rfl)) ?_
      refine e_exact 12 _ (by kernel_rfl) rfl rfl (by kernel_rfl) rfl (ex_x rfl (fun w1 h1 => x_as rfl)) ?_
      refine e_exact 13 _ (by kernel_rfl) rfl rfl (by kernel_rfl) rfl (ex_x rfl (fun w1 h1 => x_as rfl)) ?_
      refine e_done (by kernel_rfl) ?_
      refine l_nil ?_
      refine r_seq ?_
      refine r_seq ?_
      have S32 := S31.pick (L' := [_]) [0] (by decide) rfl
      refine r_forget [(1, .int .i64 i), (2, .int .i64 k), (3, .pointer (some ⟨b4, 0, none⟩)), (7, .int .i64 lo3511), (8, .int .i64 hi3511), (13, .int .i64 n8523), (16, .int .i64 e8523), (17, .int .i64 n9530), (20, .int .i64 e9530)] ⟨rfl, rfl, rfl, rfl, rfl, rfl, rfl, rfl, rfl, trivial⟩ ?_
      intro ρ33
      refine r_region ?_
      refine l_x rfl (x_mv rfl) ?_
      refine l_x rfl (x_neq rfl rfl) ?_
      refine l_x rfl (x_mv rfl) ?_
      refine l_splitd (d := 102) rfl (fun hg102 => ?_) (fun hg102 => ?_)
      · skip
        refine l_pass rfl ?_
        refine l_pass rfl ?_
        refine l_x rfl (x_pick_t rfl rfl) ?_
        refine l_x rfl (x_mv rfl) ?_
        refine l_pass rfl ?_
        refine l_pass rfl ?_
        refine l_pass rfl ?_
        refine l_x rfl (x_pick_t rfl rfl) ?_
        refine l_x rfl (x_mv rfl) ?_
        refine l_pass rfl ?_
        refine l_pass rfl ?_
        refine l_pass rfl ?_
        refine l_x rfl (x_pick_t rfl rfl) ?_
        refine l_nil ?_
        refine r_true rfl ?_
        refine r_seq ?_
        refine r_region ?_
        refine l_x rfl (x_as rfl) ?_
        refine l_nil ?_
        refine r_ret (rs := [.tmp 6]) [_] Try.func14 rfl ⟨rfl, trivial⟩ ?_
        exact ⟨congrArg Value.bool (by exfalso; omega), S32.le⟩
      · skip
        refine l_x rfl (x_mv rfl) ?_
        refine l_x rfl (x_neq rfl rfl) ?_
        refine l_x rfl (x_pick_f rfl rfl) ?_
        refine l_x rfl (x_mv rfl) ?_
        refine l_splitd (d := 106) rfl (fun hg106 => ?_) (fun hg106 => ?_)
        · skip
          refine l_pass rfl ?_
          refine l_pass rfl ?_
          refine l_pass rfl ?_
          refine l_x rfl (x_pick_t rfl rfl) ?_
          refine l_x rfl (x_mv rfl) ?_
          refine l_pass rfl ?_
          refine l_pass rfl ?_
          refine l_pass rfl ?_
          refine l_x rfl (x_pick_t rfl rfl) ?_
          refine l_nil ?_
          refine r_true rfl ?_
          refine r_seq ?_
          refine r_region ?_
          refine l_x rfl (x_as rfl) ?_
          refine l_nil ?_
          refine r_ret (rs := [.tmp 6]) [_] Try.func14 rfl ⟨rfl, trivial⟩ ?_
          exact ⟨congrArg Value.bool (by exfalso; omega), S32.le⟩
        · skip
          refine l_x rfl (x_mv rfl) ?_
          refine l_x rfl (x_mv rfl) ?_
          refine l_x rfl (x_neq rfl rfl) ?_
          refine l_x rfl (x_pick_f rfl rfl) ?_
          refine l_x rfl (x_mv rfl) ?_
          refine l_splitd (d := 111) rfl (fun hg111 => ?_) (fun hg111 => ?_)
          · skip
            refine l_pass rfl ?_
            refine l_pass rfl ?_
            refine l_pass rfl ?_
            refine l_x rfl (x_pick_t rfl rfl) ?_
            refine l_nil ?_
            refine r_true rfl ?_
            refine r_seq ?_
            refine r_region ?_
            refine l_x rfl (x_as rfl) ?_
            refine l_nil ?_
            refine r_ret (rs := [.tmp 6]) [_] Try.func14 rfl ⟨rfl, trivial⟩ ?_
            exact ⟨congrArg Value.bool (by exfalso; omega), S32.le⟩
          · skip
            refine l_x rfl (x_mv rfl) ?_
            refine l_x rfl (x_mv rfl) ?_
            refine l_x rfl (x_neq rfl rfl) ?_
            refine l_x rfl (x_pick_f rfl rfl) ?_
            refine l_nil ?_
            refine r_ifd rfl (fun hc115 => ?_) (fun hc115 => ?_)
            · skip
              refine r_seq ?_
              refine r_region ?_
              refine l_x rfl (x_as rfl) ?_
              refine l_nil ?_
              refine r_ret (rs := [.tmp 6]) [_] Try.func14 rfl ⟨rfl, trivial⟩ ?_
              exact ⟨congrArg Value.bool (by exfalso; omega), S32.le⟩
            · skip
              refine r_skip ?_
              refine r_seq ?_
              refine r_region ?_
              refine l_x rfl (x_mv rfl) ?_
              refine l_x rfl (x_mv rfl) ?_
              refine l_x rfl (x_sub rfl rfl (by omega)) ?_
              refine l_x rfl (x_mv rfl) ?_
              refine l_x rfl (x_mv rfl) ?_
              refine l_x rfl (x_mv rfl) ?_
              refine l_x rfl (x_add rfl rfl (by omega)) ?_
              refine l_x rfl (x_quo rfl rfl (by omega)) ?_
              refine l_x rfl (x_mv rfl) ?_
              refine l_x rfl (x_mv rfl) ?_
              refine l_x rfl (x_add rfl rfl (by omega)) ?_
              refine l_buildSlice EI [k, lo3511 - 1, lo3511, (lo3511 + hi3511) / 2, hi3511, hi3511 + 1] S32 rfl Try.runUnderlying25 Try.sizeOf3 Try.zeroValue3 rfl ⟨rfl, rfl, rfl, rfl, rfl, rfl, rfl, rfl, rfl, rfl, rfl, rfl, trivial⟩ (Nat.le_of_ble_eq_true rfl) ?_
              intro v37 w34 S35 hl36
              refine l_x rfl (x_as rfl) ?_
              refine l_nil ?_
              refine r_seq ?_
              refine r_seq ?_
              have S38 := S35.pick (L' := [_, _]) [0, 1] (by decide) rfl
              refine r_forget [(1, .int .i64 i), (3, .pointer (some ⟨b4, 0, none⟩)), (7, .int .i64 lo3511), (8, .int .i64 hi3511), (21, v37)] ⟨rfl, rfl, rfl, rfl, rfl, trivial⟩ ?_
              intro ρ39
              refine r_region ?_
              refine l_x rfl (x_as rfl) ?_
              refine l_nil ?_
              refine r_block ?_
              refine r_loop (G := Nat) (fun j => 6 - j) (fun j => [(1, .int .i64 i), (3, .pointer (some ⟨b4, 0, none⟩)), (7, .int .i64 lo3511), (8, .int .i64 hi3511), (21, v37), (22, .int .i64 j)]) (fun j w' => (j ≤ 6) ∧ Own nob w w' [blk b4 [.int .i64 N, va] 24, vec EI v37 [k, lo3511 - 1, lo3511, (lo3511 + hi3511) / 2, hi3511, hi3511 + 1]]) 0 ⟨rfl, rfl, rfl, rfl, rfl, rfl, trivial⟩ ⟨Nat.zero_le _, (S38.take 2)⟩ ?_
              rintro j ρ w1 ⟨hj, S1⟩ IH
              refine r_seq ?_
              refine r_seq ?_
              refine r_region ?_
              refine l_x rfl (x_mv rfl) ?_
              refine l_x rfl (x_mv rfl) ?_
              refine l_x rfl (x_len (vec_rd (S1.at 1 rfl)) rfl Try.runUnderlying25) ?_
              refine l_x rfl (x_lss rfl rfl) ?_
              refine l_nil ?_
              refine r_ifd rfl (fun hc131 => ?_) (fun hc131 => ?_)
              · skip
                have hj6 : j < 6 := by simp at hc131; omega
                obtain ⟨q, hq⟩ : ∃ q, ([k, lo3511 - 1, lo3511, (lo3511 + hi3511) / 2, hi3511, hi3511 + 1] : List Int)[j]? = some q := ⟨_, List.getElem?_eq_getElem (by simpa using hj6)⟩
                refine r_skip ?_
                refine r_seq ?_
                refine r_block ?_
                refine r_seq ?_
                refine r_drawE 14 nob Try.mixed (by kernel_rfl) ?_
                intro w40 hl41
                have S42 := S1.step hl41
                refine e_exact 0 _ (by kernel_rfl) rfl rfl (by kernel_rfl) rfl (ex_x rfl (fun w1 h1 => x_load rfl (ld_blks ((S42.step h1).blk 0 rfl) Try.isAgg24 Try.sizeOf24 rfl rfl))) ?_
                refine e_exact 1 _ (by kernel_rfl) rfl rfl (by kernel_rfl) rfl (ex_x rfl (fun w1 h1 => x_mv rfl)) ?_
                refine e_exact 2 _ (by kernel_rfl) rfl rfl (by kernel_rfl) rfl (ex_x rfl (fun w1 h1 => x_mv rfl)) ?_
                refine e_exact 3 _ (by kernel_rfl) rfl rfl (by kernel_rfl) rfl (ex_x rfl (fun w1 h1 => x_mv rfl)) ?_
                refine e_index EI 4 (by kernel_rfl) rfl rfl (by kernel_rfl) rfl rfl (vec_rd (S42.at 1 rfl)) rfl rfl Try.runUnderlying25 Try.sizeOf3 (by omega) hq ?_
                intro b43 o44 hat45
                refine e_exact 5 _ (by kernel_rfl) rfl rfl (by kernel_rfl) rfl (ex_x rfl (fun w1 h1 => x_load rfl (ld_cell Try.isAgg3 ((rd_row (vec_rd ((S42.step h1).at 1 rfl)) hat45 hq) 0 _ rfl)))) ?_
                refine e_next [6] (by kernel_rfl) (by kernel_rfl) ⟨⟨_, _, rfl, rfl, ?_⟩, trivial⟩
                refine s_callf [] [] [_, _, _] rfl rfl Try.call55 rfl ((c_Through2 _ _ _ _ _ _ (hA.le S42.le)).mono ?_)
                rintro _ w46 (⟨vx14146, x14146, e14146, rfl, hN14146, hl14146, hR14146⟩ | ⟨vx14146, x14146, e14146, rfl, hN14146, hl14146, hR14146⟩)
                · skip
                  have S47 := S42.add hl14146 hN14146
                  refine ⟨.of_le hl14146, ?_⟩
                  obtain ⟨hj0, hj1, _⟩ := sharp4 hRA he0 hR14146
                  obtain ⟨hj2, hcx, hxi⟩ := hj1 rfl
                  have hxl := hcx.bds.1
                  refine e_exact 7 _ (by kernel_rfl) rfl rfl (by kernel_rfl) rfl (ex_x rfl (fun w1 h1 => x_mv rfl)) ?_
                  refine e_exact 8 _ (by kernel_rfl) rfl rfl (by kernel_rfl) rfl (ex_x rfl (fun w1 h1 => x_extract rfl rfl)) ?_
                  refine e_exact 9 _ (by kernel_rfl) rfl rfl (by kernel_rfl) rfl (ex_x rfl (fun w1 h1 => x_extract rfl rfl)) ?_
                  refine e_exact 10 _ (by kernel_rfl) rfl rfl (by kernel_rfl) rfl (ex_x rfl (fun w1 h1 => x_extract rfl rfl)) ?_
                  refine e_exact 11 _ (by kernel_rfl) rfl rfl (by kernel_rfl) rfl (ex_x rfl (fun w1 h1 => x_as rfl)) ?_
                  refine e_exact 12 _ (by kernel_rfl) rfl rfl (by kernel_rfl) rfl (ex_x rfl (fun w1 h1 => x_as rfl)) ?_
                  refine e_exact 13 _ (by kernel_rfl) rfl rfl (by kernel_rfl) rfl (ex_x rfl (fun w1 h1 => x_as rfl)) ?_
                  refine e_done (by kernel_rfl) ?_
                  refine l_nil ?_
                  refine r_seq ?_
                  refine r_seq ?_
                  have S48 := S47.pick (L' := [_, _, _]) [0, 1, 2] (by decide) rfl
                  refine r_forget [(1, .int .i64 i), (3, .pointer (some ⟨b4, 0, none⟩)), (7, .int .i64 lo3511), (8, .int .i64 hi3511), (21, v37), (22, .int .i64 j), (23, vx14146), (24, .bool true), (25, .int .i64 e14146)] ⟨rfl, rfl, rfl, rfl, rfl, rfl, rfl, rfl, rfl, trivial⟩ ?_
                  intro ρ49
                  refine r_region ?_
                  refine l_x rfl (x_mv rfl) ?_
                  refine l_x rfl (x_neq rfl rfl) ?_
                  refine l_x rfl (x_mv rfl) ?_
                  refine l_splitd (d := 147) rfl (fun hg147 => ?_) (fun hg147 => ?_)
                  · skip
                    refine l_pass rfl ?_
                    refine l_pass rfl ?_
                    refine l_pass rfl ?_
                    refine l_pass rfl ?_
                    refine l_pass rfl ?_
                    refine l_pass rfl ?_
                    refine l_pass rfl ?_
                    refine l_pass rfl ?_
                    refine l_pass rfl ?_
                    refine l_pass rfl ?_
                    refine l_pass rfl ?_
                    refine l_pass rfl ?_
                    refine l_pass rfl ?_
                    refine l_pass rfl ?_
                    refine l_pass rfl ?_
                    refine l_pass rfl ?_
                    refine l_x rfl (x_pick_t rfl rfl) ?_
                    refine l_nil ?_
                    refine r_true rfl ?_
                    refine r_seq ?_
                    refine r_region ?_
                    refine l_x rfl (x_as rfl) ?_
                    refine l_nil ?_
                    refine r_ret (rs := [.tmp 6]) [_] Try.func14 rfl ⟨rfl, trivial⟩ ?_
                    exact ⟨congrArg Value.bool (by exfalso; omega), S48.le⟩
                  · skip
                    refine l_x rfl (x_mv rfl) ?_
                    refine l_x rfl (x_mv rfl) ?_
                    refine l_x rfl (x_mv rfl) ?_
                    refine l_x rfl (x_mv rfl) ?_
                    refine l_index EI rfl (vec_rd (S48.at 1 rfl)) rfl rfl Try.runUnderlying25 Try.sizeOf3 (by omega) hq ?_
                    intro b50 o51 hat52 row53
                    refine l_x rfl (x_load rfl (ld_cell Try.isAgg3 (row53 0 _ rfl))) ?_
                    refine l_x rfl (x_leq rfl rfl) ?_
                    refine l_x rfl (x_mv rfl) ?_
                    refine l_splitd (d := 155) rfl (fun hg155 => ?_) (fun hg155 => ?_)
                    · skip
                      refine l_x rfl (x_mv rfl) ?_
                      refine l_x rfl (x_mv rfl) ?_
                      refine l_index EI rfl (vec_rd (S48.at 1 rfl)) rfl rfl Try.runUnderlying25 Try.sizeOf3 (by omega) hq ?_
                      intro b54 o55 hat56 row57
                      refine l_x rfl (x_load rfl (ld_cell Try.isAgg3 (row57 0 _ rfl))) ?_
                      refine l_x rfl (x_mv rfl) ?_
                      refine l_x rfl (x_leq rfl rfl) ?_
                      refine l_x rfl (x_pick_t rfl rfl) ?_
                      refine l_x rfl (x_bneT Try.runUnderlying4 rfl rfl) ?_
                      refine l_x rfl (x_pick_f rfl rfl) ?_
                      refine l_nil ?_
                      refine r_ifd rfl (fun hc164 => ?_) (fun hc164 => ?_)
                      · skip
                        refine r_seq ?_
                        refine r_region ?_
                        refine l_x rfl (x_as rfl) ?_
                        refine l_nil ?_
                        refine r_ret (rs := [.tmp 6]) [_] Try.func14 rfl ⟨rfl, trivial⟩ ?_
                        exact ⟨congrArg Value.bool (by exfalso; omega), S48.le⟩
                      · skip
                        refine r_skip ?_
                        refine r_seq ?_
                        refine r_seq ?_
                        refine r_region ?_
                        refine l_x rfl (x_mv rfl) ?_
                        refine l_x rfl (x_not rfl) ?_
                        refine l_nil ?_
                        refine r_false rfl ?_
                        refine r_skip ?_
                        refine r_seq ?_
                        refine r_region ?_
                        refine l_x rfl (x_load rfl (ld_blks (S48.blk 0 rfl) Try.isAgg24 Try.sizeOf24 rfl rfl)) ?_
                        refine l_x rfl (x_mv rfl) ?_
                        refine l_call [] [] [_, _] rfl rfl Try.call31 rfl (c_rKept _ _ _ _ _ (by first | omega | (rw [unit_length]; omega) | (rw [List.length_map]; omega) | decide) _ (hA.le S48.le) (vec_rd (S48.at 2 rfl))) ?_
                        rintro _ w58 ⟨k17358, e17358, rfl, hl17358, hR17358⟩
                        have S59 := S48.step hl17358
                        obtain ⟨rfl, he9⟩ := hR17358.yes hV hcx
                        refine l_x rfl (x_mv rfl) ?_
                        refine l_x rfl (x_extract rfl rfl) ?_
                        refine l_x rfl (x_extract rfl rfl) ?_
                        refine l_x rfl (x_as rfl) ?_
                        refine l_x rfl (x_as rfl) ?_
                        refine l_nil ?_
                        refine r_seq ?_
                        refine r_drawR 17 Try.mixed (by kernel_rfl) ?_
                        refine w_x rfl (fun w1 h1 => x_mv rfl) ?_
                        refine w_x rfl (fun w1 h1 => x_neq rfl rfl) ?_
                        refine w_x rfl (fun w1 h1 => x_mv rfl) ?_
                        refine w_splitd (d := 178) rfl (fun hg178 => ?_) (fun hg178 => ?_)
                        · skip
                          refine w_pass rfl ?_
                          refine w_pass rfl ?_
                          refine w_x rfl (fun w1 h1 => x_pick_t rfl rfl) ?_
                          refine w_x rfl (fun w1 h1 => x_mv rfl) ?_
                          refine w_pass rfl ?_
                          refine w_pass rfl ?_
                          refine w_pass rfl ?_
                          refine w_pass rfl ?_
                          refine w_pass rfl ?_
                          refine w_pass rfl ?_
                          refine w_pass rfl ?_
                          refine w_pass rfl ?_
                          refine w_pass rfl ?_
                          refine w_x rfl (fun w1 h1 => x_pick_t rfl rfl) ?_
                          refine w_nil ?_
                          intro w60 hl61
                          have S62 := S59.step hl61
                          refine l_nil ?_
                          refine r_true rfl ?_
                          refine r_seq ?_
                          refine r_region ?_
                          refine l_x rfl (x_as rfl) ?_
                          refine l_nil ?_
                          refine r_ret (rs := [.tmp 6]) [_] Try.func14 rfl ⟨rfl, trivial⟩ ?_
                          exact ⟨congrArg Value.bool (by exfalso; omega), S62.le⟩
                        · skip
                          refine w_x rfl (fun w1 h1 => x_mv rfl) ?_
                          refine w_x rfl (fun w1 h1 => x_not rfl) ?_
                          refine w_x rfl (fun w1 h1 => x_pick_f rfl rfl) ?_
                          refine w_x rfl (fun w1 h1 => x_mv rfl) ?_
                          refine w_x rfl (fun w1 h1 => x_mv rfl) ?_
                          refine w_x rfl (fun w1 h1 => x_mv rfl) ?_
                          refine w_index EI rfl (vec_rd (S59.at 2 rfl)) rfl rfl Try.runUnderlying25 Try.sizeOf3 (by omega) hxi ?_
                          intro b63 o64 hat65 row66
                          refine w_x rfl (fun w1 h1 => x_load rfl (ld_cell Try.isAgg3 ((row66.le h1) 0 _ rfl))) ?_
                          refine w_x rfl (fun w1 h1 => x_mv rfl) ?_
                          refine w_x rfl (fun w1 h1 => x_mv rfl) ?_
                          refine w_index EI rfl (vec_rd (S59.at 1 rfl)) rfl rfl Try.runUnderlying25 Try.sizeOf3 (by omega) hq ?_
                          intro b67 o68 hat69 row70
                          refine w_x rfl (fun w1 h1 => x_load rfl (ld_cell Try.isAgg3 ((row70.le h1) 0 _ rfl))) ?_
                          refine w_x rfl (fun w1 h1 => x_neq rfl rfl) ?_
                          refine w_x rfl (fun w1 h1 => x_pick_f rfl rfl) ?_
                          refine w_nil ?_
                          intro w71 hl72
                          have S73 := S59.step hl72
                          refine l_nil ?_
                          refine r_ifd rfl (fun hc192 => ?_) (fun hc192 => ?_)
                          · skip
                            refine r_seq ?_
                            refine r_region ?_
                            refine l_x rfl (x_as rfl) ?_
                            refine l_nil ?_
                            refine r_ret (rs := [.tmp 6]) [_] Try.func14 rfl ⟨rfl, trivial⟩ ?_
                            exact ⟨congrArg Value.bool (by exfalso; omega), S73.le⟩
                          · skip
                            refine r_skip ?_
                            refine r_inBlock ?_
                            refine r_region ?_
                            refine l_x rfl (x_mv rfl) ?_
                            refine l_x rfl (x_add rfl rfl (by omega)) ?_
                            refine l_x rfl (x_as rfl) ?_
                            refine l_nil ?_
                            exact IH (j + 1) _ _ (by omega) ⟨rfl, rfl, rfl, rfl, rfl, rfl, trivial⟩ ⟨by omega, (S73.take 2)⟩
                    · skip
                      refine l_pass rfl ?_
                      refine l_pass rfl ?_
                      refine l_pass rfl ?_
                      refine l_pass rfl ?_
                      refine l_pass rfl ?_
                      refine l_pass rfl ?_
                      refine l_x rfl (x_pick_f rfl rfl) ?_
                      refine l_x rfl (x_bne Try.runUnderlying4 rfl rfl) ?_
                      refine l_x rfl (x_pick_f rfl rfl) ?_
                      refine l_nil ?_
                      refine r_true rfl ?_
                      refine r_seq ?_
                      refine r_region ?_
                      refine l_x rfl (x_as rfl) ?_
                      refine l_nil ?_
                      refine r_ret (rs := [.tmp 6]) [_] Try.func14 rfl ⟨rfl, trivial⟩ ?_
                      exact ⟨congrArg Value.bool (by exfalso; omega), S48.le⟩
                · skip
                  have S74 := S42.add hl14146 hN14146
                  refine ⟨.of_le hl14146, ?_⟩
                  obtain ⟨hj0, _, hj1⟩ := sharp4 hRA he0 hR14146
                  have hj2 := hj1 rfl
                  refine e_exact 7 _ (by kernel_rfl) rfl rfl (by kernel_rfl) rfl (ex_x rfl (fun w1 h1 => x_mv rfl)) ?_
                  refine e_exact 8 _ (by kernel_rfl) rfl rfl (by kernel_rfl) rfl (ex_x rfl (fun w1 h1 => x_extract rfl rfl)) ?_
                  refine e_exact 9 _ (by kernel_rfl) rfl rfl (by kernel_rfl) rfl (ex_x rfl (fun w1 h1 => x_extract rfl rfl)) ?_
                  refine e_exact 10 _ (by kernel_rfl) rfl rfl (by kernel_rfl) rfl (ex_x rfl (fun w1 h1 => x_extract rfl rfl)) ?_
                  refine e_exact 11 _ (by kernel_rfl) rfl rfl (by kernel_rfl) rfl (ex_x rfl (fun w1 h1 => x_as rfl)) ?_
                  refine e_exact 12 _ (by kernel_rfl) rfl rfl (by kernel_rfl) rfl (ex_x rfl (fun w1 h1 => x_as rfl)) ?_
                  refine e_exact 13 _ (by kernel_rfl) rfl rfl (by kernel_rfl) rfl (ex_x rfl (fun w1 h1 => x_as rfl)) ?_
                  refine e_done (by kernel_rfl) ?_
                  refine l_nil ?_
                  refine r_seq ?_
                  refine r_seq ?_
                  have S75 := S74.pick (L' := [_, _, _]) [0, 1, 2] (by decide) rfl
                  refine r_forget [(1, .int .i64 i), (3, .pointer (some ⟨b4, 0, none⟩)), (7, .int .i64 lo3511), (8, .int .i64 hi3511), (21, v37), (22, .int .i64 j), (23, vx14146), (24, .bool false), (25, .int .i64 e14146)] ⟨rfl, rfl, rfl, rfl, rfl, rfl, rfl, rfl, rfl, trivial⟩ ?_
                  intro ρ76
                  refine r_region ?_
                  refine l_x rfl (x_mv rfl) ?_
                  refine l_x rfl (x_neq rfl rfl) ?_
                  refine l_x rfl (x_mv rfl) ?_
                  refine l_splitd (d := 147) rfl (fun hg147 => ?_) (fun hg147 => ?_)
                  · skip
                    refine l_pass rfl ?_
                    refine l_pass rfl ?_
                    refine l_pass rfl ?_
                    refine l_pass rfl ?_
                    refine l_pass rfl ?_
                    refine l_pass rfl ?_
                    refine l_pass rfl ?_
                    refine l_pass rfl ?_
                    refine l_pass rfl ?_
                    refine l_pass rfl ?_
                    refine l_pass rfl ?_
                    refine l_pass rfl ?_
                    refine l_pass rfl ?_
                    refine l_pass rfl ?_
                    refine l_pass rfl ?_
                    refine l_pass rfl ?_
                    refine l_x rfl (x_pick_t rfl rfl) ?_
                    refine l_nil ?_
                    refine r_true rfl ?_
                    refine r_seq ?_
                    refine r_region ?_
                    refine l_x rfl (x_as rfl) ?_
                    refine l_nil ?_
                    refine r_ret (rs := [.tmp 6]) [_] Try.func14 rfl ⟨rfl, trivial⟩ ?_
                    exact ⟨congrArg Value.bool (by exfalso; omega), S75.le⟩
                  · skip
                    refine l_x rfl (x_mv rfl) ?_
                    refine l_x rfl (x_mv rfl) ?_
                    refine l_x rfl (x_mv rfl) ?_
                    refine l_x rfl (x_mv rfl) ?_
                    refine l_index EI rfl (vec_rd (S75.at 1 rfl)) rfl rfl Try.runUnderlying25 Try.sizeOf3 (by omega) hq ?_
                    intro b77 o78 hat79 row80
                    refine l_x rfl (x_load rfl (ld_cell Try.isAgg3 (row80 0 _ rfl))) ?_
                    refine l_x rfl (x_leq rfl rfl) ?_
                    refine l_x rfl (x_mv rfl) ?_
                    refine l_splitd (d := 155) rfl (fun hg155 => ?_) (fun hg155 => ?_)
                    · skip
                      refine l_x rfl (x_mv rfl) ?_
                      refine l_x rfl (x_mv rfl) ?_
                      refine l_index EI rfl (vec_rd (S75.at 1 rfl)) rfl rfl Try.runUnderlying25 Try.sizeOf3 (by omega) hq ?_
                      intro b81 o82 hat83 row84
                      refine l_x rfl (x_load rfl (ld_cell Try.isAgg3 (row84 0 _ rfl))) ?_
                      refine l_x rfl (x_mv rfl) ?_
                      refine l_x rfl (x_leq rfl rfl) ?_
                      refine l_x rfl (x_pick_t rfl rfl) ?_
                      refine l_x rfl (x_bneF Try.runUnderlying4 rfl rfl) ?_
                      refine l_x rfl (x_pick_f rfl rfl) ?_
                      refine l_nil ?_
                      refine r_ifd rfl (fun hc164 => ?_) (fun hc164 => ?_)
                      · skip
                        refine r_seq ?_
                        refine r_region ?_
                        refine l_x rfl (x_as rfl) ?_
                        refine l_nil ?_
                        refine r_ret (rs := [.tmp 6]) [_] Try.func14 rfl ⟨rfl, trivial⟩ ?_
                        exact ⟨congrArg Value.bool (by exfalso; omega), S75.le⟩
                      · skip
                        refine r_skip ?_
                        refine r_seq ?_
                        refine r_seq ?_
                        refine r_region ?_
                        refine l_x rfl (x_mv rfl) ?_
                        refine l_x rfl (x_not rfl) ?_
                        refine l_nil ?_
                        refine r_true rfl ?_
                        refine r_seq ?_
                        refine r_seq ?_
                        refine r_region ?_
                        refine l_x rfl (x_mv rfl) ?_
                        refine l_x rfl (x_len (vec_rd (S75.at 2 rfl)) rfl Try.runUnderlying25) ?_
                        refine l_x rfl (x_gtr rfl rfl) ?_
                        refine l_nil ?_
                        refine r_ifd rfl (fun hc169 => ?_) (fun hc169 => ?_)
                        · skip
                          refine r_seq ?_
                          refine r_region ?_
                          refine l_x rfl (x_as rfl) ?_
                          refine l_nil ?_
                          refine r_ret (rs := [.tmp 6]) [_] Try.func14 rfl ⟨rfl, trivial⟩ ?_
                          exact ⟨congrArg Value.bool (by exfalso; omega), S75.le⟩
                        · skip
                          refine r_skip ?_
                          refine r_exit rfl ?_
                          refine r_region ?_
                          refine l_x rfl (x_mv rfl) ?_
                          refine l_x rfl (x_add rfl rfl (by omega)) ?_
                          refine l_x rfl (x_as rfl) ?_
                          refine l_nil ?_
                          exact IH (j + 1) _ _ (by omega) ⟨rfl, rfl, rfl, rfl, rfl, rfl, trivial⟩ ⟨by omega, (S75.take 2)⟩
                    · skip
                      refine l_pass rfl ?_
                      refine l_pass rfl ?_
                      refine l_pass rfl ?_
                      refine l_pass rfl ?_
                      refine l_pass rfl ?_
                      refine l_pass rfl ?_
                      refine l_x rfl (x_pick_f rfl rfl) ?_
                      refine l_x rfl (x_bne Try.runUnderlying4 rfl rfl) ?_
                      refine l_x rfl (x_pick_f rfl rfl) ?_
                      refine l_nil ?_
                      refine r_false rfl ?_
                      refine r_skip ?_
                      refine r_seq ?_
                      refine r_seq ?_
                      refine r_region ?_
                      refine l_x rfl (x_mv rfl) ?_
                      refine l_x rfl (x_not rfl) ?_
                      refine l_nil ?_
                      refine r_true rfl ?_
                      refine r_seq ?_
                      refine r_seq ?_
                      refine r_region ?_
                      refine l_x rfl (x_mv rfl) ?_
                      refine l_x rfl (x_len (vec_rd (S75.at 2 rfl)) rfl Try.runUnderlying25) ?_
                      refine l_x rfl (x_gtr rfl rfl) ?_
                      refine l_nil ?_
                      refine r_ifd rfl (fun hc169 => ?_) (fun hc169 => ?_)
                      · skip
                        refine r_seq ?_
                        refine r_region ?_
                        refine l_x rfl (x_as rfl) ?_
                        refine l_nil ?_
                        refine r_ret (rs := [.tmp 6]) [_] Try.func14 rfl ⟨rfl, trivial⟩ ?_
                        exact ⟨congrArg Value.bool (by exfalso; omega), S75.le⟩
                      · skip
                        refine r_skip ?_
                        refine r_exit rfl ?_
                        refine r_region ?_
                        refine l_x rfl (x_mv rfl) ?_
                        refine l_x rfl (x_add rfl rfl (by omega)) ?_
                        refine l_x rfl (x_as rfl) ?_
                        refine l_nil ?_
                        exact IH (j + 1) _ _ (by omega) ⟨rfl, rfl, rfl, rfl, rfl, rfl, trivial⟩ ⟨by omega, (S75.take 2)⟩
              · skip
                refine r_exit rfl ?_
                refine r_seq ?_
                refine r_region ?_
                refine l_call [] [] [] rfl rfl Try.call19 rfl (c_flowing _) ?_
                rintro _ w85 ⟨rfl, hl87⟩
                have S86 := S1.step hl87
                refine l_x rfl (x_as rfl) ?_
                refine l_nil ?_
                refine r_ret (rs := [.tmp 6]) [_] Try.func14 rfl ⟨rfl, trivial⟩ ?_
                exact ⟨rfl, S86.le⟩

end Go.Proofs

/-
  The statement of FlowSharp: for every input the law returns true, and its arguments read as they did. No condition.
-/
namespace Go.Proofs
open Go Go.Vk Go.Vk.Flow

open Go.ChangeShapes Go.WideShapes Go.RowKit Go.Joins
namespace Ytddapgjjndbejaa
set_option maxRecDepth 100000 in
theorem liftedSharp (os : Os) (started : os.Started) (H : Type) (enc : TypeId × Value → H) :
    ReturnsInHanded {} Try.checked os 14 .any (Rows.flowSharpSpec.pre6 enc Try.prog Try.f14 Rows.flowSharpRow.domain false) (Rows.flowSharpSpec.post enc Try.prog Try.f14 false true false false) := by
  refine returnsInHanded_of_change (C := Try.checked) ownT started (by kernel_rfl) Try.func14
    (ChangeSpec.witness6 (enc := enc) (C := Try.checked) false ⟨#[], #[.agg #[.int .i64 0, .slice none 0 0], .int .i64 0, .int .i64 0], []⟩ 8 (by kernel_rfl) (by kernel_rfl) (by kernel_rfl) (by kernel_rfl)) ?_
  intro W base args ds gs before hval0 hW hcnd _
  have hval : ∀ (j : Nat) t v, Try.f14.params[j]? = some t → args[j]? = some v → Value.okWide Try.prog W .any base t v := hval0
  have hW' := hW
  obtain ⟨p, q, hA0, hV, rfl, hfz, hnd⟩ := hW
  have hA : DataW.TrodAll enc Try.prog W 0 (fun _ => true) true Try.f14.params.toList args.toList ds p := hA0
  rw [Try.params14] at hA hval
  obtain ⟨v0, vs0, d0, ds0, p0, q0, hargs, rfl, rfl, h0, r0⟩ := trodAll_cons hA
  obtain ⟨v1, vs1, d1, ds1, p1, q1, rfl, rfl, rfl, h1, r1⟩ := trodAll_cons r0
  obtain ⟨v2, vs2, d2, ds2, p2, q2, rfl, rfl, rfl, h2, r2⟩ := trodAll_cons r1
  obtain ⟨rfl, rfl, rfl⟩ := trodAll_nil r2
  obtain rfl : args = #[v0, v1, v2] := by cases args; simp_all
  obtain ⟨rfl, rfl⟩ := trodVars_none hV
  obtain ⟨N0, va0, arcs0, rfl, hQ0, hm0⟩ := openNet (hval 0 24 v0 rfl rfl) h0
  obtain ⟨i1, rfl, rfl, rfl, w1⟩ := open_int Try.underlying3 (hval 1 3 v1 rfl rfl) h1
  obtain ⟨i2, rfl, rfl, rfl, w2⟩ := open_int Try.underlying3 (hval 2 3 v2 rfl rfl) h2
  clear hA0 hval0
  exact (lawSharp N0 va0 arcs0 i1 i2 W hQ0).mono fun v W' ⟨hv, hle⟩ => by
    subst hv
    exact post_law hW' laidT (by rw [Try.params14]; exact fun t ht => by revert t; decide +kernel) (by kernel_rfl) Try.underlying4 rfl rfl rfl rfl hle
/-- FlowSharp: whatever the input, the law returns true, and its arguments read as they did. -/
theorem flowSharp : Rows.FlowSharpSaid :=
  OpenClaim.holds_of_wide 14 Try.f14 rfl rfl rfl rfl rfl rfl rfl ⟨rfl, rfl, rfl, rfl, rfl⟩ rfl rfl rfl rfl rfl (by kernel_rfl) Try.func14 (by kernel_rfl)
    (of_decide_eq_true (by kernel_rfl)) (by unfold Func.isWrapper; rw [if_neg (of_decide_eq_false (by kernel_rfl))]; exact ⟨rfl, rfl⟩)
    (fun os started H enc _ => liftedSharp os started H enc)
#print axioms flowSharp
end Ytddapgjjndbejaa

end Go.Proofs
