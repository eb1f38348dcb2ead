/-
  Contracts of functions of the program: each by symbolic execution of its text.
-/
import Derived.Test.YtddapgjjndbejaaL0
namespace Go.Proofs
open Go Go.Vk Go.Vk.Flow

set_option maxHeartbeats 4000000 in
/-- couchant/couchantlaw06.FlowNarrows. -/
theorem lawNarrows (N : Int) (va : Value) (arcs : List Arc) (i lo hi o : Int) (vw : Value) (wl : List Int) (vx : Value) (x : List Int) (w : World) (hA : Rd EA w va arcs) (Hw : Rd EI w vw wl) (Hx : Rd EI w vx x) :
    Cl Try.prog 3 #[.agg #[.int .i64 N, va], .int .i64 i, .int .i64 lo, .int .i64 hi, .int .i64 o, vw, vx] w fun v w' => v = .bool true ∧ Le w w' := by
  refine fn_of_run (args := [_, _, _, _, _, _, _]) 142 Try.func3 rfl rfl rfl fun cs => ?_
  have S := Own.start (X := nob) w
  refine r_seq ?_
  refine r_region ?_
  refine l_box S rfl rfl ?_
  intro b4 w1 S2 hl3
  refine l_x rfl (x_as rfl) ?_
  refine l_nil ?_
  refine r_seq ?_
  refine r_seq ?_
  refine r_region ?_
  refine l_x rfl (x_load rfl (ld_blks (S2.blk 0 rfl) Try.isAgg24 Try.sizeOf24 rfl rfl)) ?_
  refine l_call [] [] [_] rfl rfl Try.call18 rfl (c_small _ _ _ _ (hA.le S2.le)) ?_
  rintro _ w5 ⟨rfl, hl7⟩
  have S6 := S2.step hl7
  refine l_x rfl (x_not rfl) ?_
  refine l_x rfl (x_mv rfl) ?_
  refine l_split (d := 38) rfl (fun hg38 => ?_) (fun hg38 => ?_)
  · skip
    refine l_pass rfl ?_
    refine l_pass rfl ?_
    refine l_pass rfl ?_
    refine l_x rfl (x_pick_t rfl rfl) ?_
    refine l_x rfl (x_mv rfl) ?_
    refine l_pass rfl ?_
    refine l_pass rfl ?_
    refine l_pass rfl ?_
    refine l_x rfl (x_pick_t rfl rfl) ?_
    refine l_nil ?_
    refine r_true rfl ?_
    refine r_seq ?_
    refine r_region ?_
    refine l_call [] [] [] rfl rfl Try.call19 rfl (c_flowing _) ?_
    rintro _ w8 ⟨rfl, hl10⟩
    have S9 := S6.step hl10
    refine l_x rfl (x_as rfl) ?_
    refine l_nil ?_
    refine r_ret (rs := [.tmp 14]) [_] Try.func3 rfl ⟨rfl, trivial⟩ ?_
    exact ⟨rfl, S9.le⟩
  · skip
    refine l_x rfl (x_mv rfl) ?_
    refine l_x rfl (x_len (Hw.le S6.le) rfl Try.runUnderlying25) ?_
    refine l_x rfl (x_gtr rfl rfl) ?_
    refine l_x rfl (x_pick_f rfl rfl) ?_
    refine l_x rfl (x_mv rfl) ?_
    refine l_splitd (d := 43) rfl (fun hg43 => ?_) (fun hg43 => ?_)
    · skip
      refine l_pass rfl ?_
      refine l_pass rfl ?_
      refine l_pass rfl ?_
      refine l_x rfl (x_pick_t rfl rfl) ?_
      refine l_nil ?_
      refine r_true rfl ?_
      refine r_seq ?_
      refine r_region ?_
      refine l_call [] [] [] rfl rfl Try.call19 rfl (c_flowing _) ?_
      rintro _ w11 ⟨rfl, hl13⟩
      have S12 := S6.step hl13
      refine l_x rfl (x_as rfl) ?_
      refine l_nil ?_
      refine r_ret (rs := [.tmp 14]) [_] Try.func3 rfl ⟨rfl, trivial⟩ ?_
      exact ⟨rfl, S12.le⟩
    · skip
      refine l_x rfl (x_mv rfl) ?_
      refine l_x rfl (x_len (Hx.le S6.le) rfl Try.runUnderlying25) ?_
      refine l_x rfl (x_gtr rfl rfl) ?_
      refine l_x rfl (x_pick_f rfl rfl) ?_
      refine l_nil ?_
      refine r_ifd rfl (fun hc47 => ?_) (fun hc47 => ?_)
      · skip
        refine r_seq ?_
        refine r_region ?_
        refine l_call [] [] [] rfl rfl Try.call19 rfl (c_flowing _) ?_
        rintro _ w14 ⟨rfl, hl16⟩
        have S15 := S6.step hl16
        refine l_x rfl (x_as rfl) ?_
        refine l_nil ?_
        refine r_ret (rs := [.tmp 14]) [_] Try.func3 rfl ⟨rfl, trivial⟩ ?_
        exact ⟨rfl, S15.le⟩
      · skip
        refine r_skip ?_
        refine r_seq ?_
        refine r_region ?_
        refine l_x rfl (x_load rfl (ld_blks (S6.blk 0 rfl) Try.isAgg24 Try.sizeOf24 rfl rfl)) ?_
        refine l_x rfl (x_mv rfl) ?_
        refine l_x rfl (x_mv rfl) ?_
        refine l_x rfl (x_mv rfl) ?_
        refine l_call [] [] [_, _, _, _, _] rfl rfl Try.call20 rfl (c_Narrow2 _ _ _ _ _ _ _ _ (hA.le S6.le)) ?_
        rintro _ w17 (⟨vh5417, rfl, hN5417, hl5417, hnE5417⟩ | ⟨vh5417, e5417, rfl, hN5417, hl5417, hnE5417, hn05417⟩)
        · skip
          have S18 := S6.add hl5417 hN5417
          have hnE := hnE5417
          refine l_x rfl (x_mv rfl) ?_
          refine l_x rfl (x_extract rfl rfl) ?_
          refine l_x rfl (x_extract rfl rfl) ?_
          refine l_alloc S18 rfl Try.zeroValue24 rfl ?_
          intro b22 w19 S20 hl21
          refine l_stores (vs := [_, _]) S20 2 rfl rfl rfl rfl (ones_cons rfl (ones_cons (Rd.one (vec_rd (S20.at 1 rfl))) ones_nil)) Try.sizeOf24 (by first | exact Nat.le_refl _ | simp) (splice_all rfl) ?_
          intro w23 S24 hk25
          refine l_x rfl (x_as rfl) ?_
          refine l_nil ?_
          refine r_seq ?_
          refine r_seq ?_
          refine r_region ?_
          refine l_x rfl (x_mv rfl) ?_
          refine l_x rfl (x_neq rfl rfl) ?_
          refine l_nil ?_
          refine r_ifd rfl (fun hc58 => ?_) (fun hc58 => ?_)
          · exact absurd rfl hc58
          · skip
            refine r_skip ?_
            refine r_seq ?_
            have hV := (narE_zero.1 hnE).1
            have hNw := nar_nrw arcs i.toNat lo hi 5
            refine r_region ?_
            refine l_x rfl (x_load rfl (ld_blks (S24.blk 2 rfl) Try.isAgg24 Try.sizeOf24 rfl rfl)) ?_
            refine l_x rfl (x_mv rfl) ?_
            refine l_call [] [] [_, _] rfl rfl Try.call21 rfl (c_Kept _ _ _ _ _ (by first | omega | (rw [unit_length]; omega) | (rw [List.length_map]; omega) | decide) _ (vec_rd (S24.at 1 rfl)) (Hx.le S24.le)) ?_
            rintro _ w26 ⟨rfl, hl28⟩
            have S27 := S24.step hl28
            refine l_x rfl (x_mv rfl) ?_
            refine l_x rfl (x_extract rfl rfl) ?_
            refine l_x rfl (x_extract rfl rfl) ?_
            refine l_x rfl (x_as rfl) ?_
            refine l_x rfl (x_as rfl) ?_
            refine l_nil ?_
            refine r_seq ?_
            refine r_region ?_
            refine l_x rfl (x_load rfl (ld_blks (S27.blk 0 rfl) Try.isAgg24 Try.sizeOf24 rfl rfl)) ?_
            refine l_x rfl (x_mv rfl) ?_
            refine l_call [] [] [_, _] rfl rfl Try.call21 rfl (c_Kept _ _ _ _ _ (by first | omega | (rw [unit_length]; omega) | (rw [List.length_map]; omega) | decide) _ (hA.le S27.le) (Hx.le S27.le)) ?_
            rintro _ w29 ⟨rfl, hl31⟩
            have S30 := S27.step hl31
            refine l_x rfl (x_mv rfl) ?_
            refine l_x rfl (x_extract rfl rfl) ?_
            refine l_x rfl (x_extract rfl rfl) ?_
            refine l_x rfl (x_as rfl) ?_
            refine l_x rfl (x_as rfl) ?_
            refine l_nil ?_
            refine r_seq ?_
            refine r_seq ?_
            refine r_region ?_
            refine l_x rfl (x_mv rfl) ?_
            refine l_x rfl (x_mv rfl) ?_
            refine l_x rfl (x_neq rfl rfl) ?_
            refine l_x rfl (x_mv rfl) ?_
            refine l_splitd (d := 75) rfl (fun hg75 => ?_) (fun hg75 => ?_)
            · exact absurd (nar_askd hnE x) hg75
            · skip
              refine l_x rfl (x_mv rfl) ?_
              refine l_x rfl (x_mv rfl) ?_
              refine l_split (d := 77) rfl (fun hg77 => ?_) (fun hg77 => ?_)
              · skip
                refine l_x rfl (x_mv rfl) ?_
                refine l_x rfl (x_not rfl) ?_
                refine l_x rfl (x_pick_t rfl rfl) ?_
                refine l_x rfl (x_pick_f rfl rfl) ?_
                refine l_nil ?_
                refine r_if rfl (fun hc81 => ?_) (fun hc81 => ?_)
                · exact absurd hc81 (by rw [nar_kept hnE hg77]; decide)
                · skip
                  refine r_skip ?_
                  refine r_seq ?_
                  refine r_region ?_
                  refine l_x rfl (x_load rfl (ld_blks (S30.blk 0 rfl) Try.isAgg24 Try.sizeOf24 rfl rfl)) ?_
                  refine l_x rfl (x_mv rfl) ?_
                  refine l_call [] [] [_, _] rfl rfl Try.call22 rfl (c_Greatest _ _ _ _ _ (by first | omega | (rw [unit_length]; omega) | (rw [List.length_map]; omega) | decide) _ (hA.le S30.le) (Hw.le S30.le)) ?_
                  rintro _ w32 ⟨n8532, vx8532, x8532, vp8532, p8532, e8532, rfl, hO8532, hR8532⟩
                  have S33 := S30.join hO8532
                  have hR1 := hR8532
                  refine l_x rfl (x_mv rfl) ?_
                  refine l_x rfl (x_extract rfl rfl) ?_
                  refine l_x rfl (x_extract rfl rfl) ?_
                  refine l_x rfl (x_extract rfl rfl) ?_
                  refine l_x rfl (x_extract rfl rfl) ?_
                  refine l_x rfl (x_as rfl) ?_
                  refine l_x rfl (x_as rfl) ?_
                  refine l_x rfl (x_as rfl) ?_
                  refine l_x rfl (x_as rfl) ?_
                  refine l_nil ?_
                  refine r_seq ?_
                  refine r_region ?_
                  refine l_x rfl (x_load rfl (ld_blks (S33.blk 2 rfl) Try.isAgg24 Try.sizeOf24 rfl rfl)) ?_
                  refine l_x rfl (x_mv rfl) ?_
                  refine l_call [] [] [_, _] rfl rfl Try.call22 rfl (c_Greatest _ _ _ _ _ (by first | omega | (rw [unit_length]; omega) | (rw [List.length_map]; omega) | decide) _ (vec_rd (S33.at 1 rfl)) (Hw.le S33.le)) ?_
                  rintro _ w34 ⟨n9334, vx9334, x9334, vp9334, p9334, e9334, rfl, hO9334, hR9334⟩
                  have S35 := S33.join hO9334
                  have hR2 := hR9334
                  refine l_x rfl (x_mv rfl) ?_
                  refine l_x rfl (x_extract rfl rfl) ?_
                  refine l_x rfl (x_extract rfl rfl) ?_
                  refine l_x rfl (x_extract rfl rfl) ?_
                  refine l_x rfl (x_extract rfl rfl) ?_
                  refine l_x rfl (x_as rfl) ?_
                  refine l_x rfl (x_as rfl) ?_
                  refine l_x rfl (x_as rfl) ?_
                  refine l_x rfl (x_as rfl) ?_
                  refine l_nil ?_
                  refine r_seq ?_
                  refine r_seq ?_
                  refine r_region ?_
                  refine l_x rfl (x_mv rfl) ?_
                  refine l_x rfl (x_eql rfl rfl) ?_
                  refine l_x rfl (x_mv rfl) ?_
                  refine l_splitd (d := 100) rfl (fun hg100 => ?_) (fun hg100 => ?_)
                  · skip
                    refine l_x rfl (x_mv rfl) ?_
                    refine l_x rfl (x_neq rfl rfl) ?_
                    refine l_x rfl (x_mv rfl) ?_
                    refine l_splitd (d := 103) rfl (fun hg103 => ?_) (fun hg103 => ?_)
                    · exact absurd (GrR.narrow hNw hV hR1 hR2 hg100).1 hg103
                    · skip
                      refine l_x rfl (x_mv rfl) ?_
                      refine l_x rfl (x_mv rfl) ?_
                      refine l_x rfl (x_gtr rfl rfl) ?_
                      refine l_x rfl (x_pick_f rfl rfl) ?_
                      refine l_x rfl (x_pick_t rfl rfl) ?_
                      refine l_nil ?_
                      refine r_ifd rfl (fun hc108 => ?_) (fun hc108 => ?_)
                      · exact absurd (GrR.narrow hNw hV hR1 hR2 hg100).2 (by omega)
                      · skip
                        refine r_skip ?_
                        refine r_seq ?_
                        refine r_region ?_
                        refine l_x rfl (x_load rfl (ld_blks (S35.blk 0 rfl) Try.isAgg24 Try.sizeOf24 rfl rfl)) ?_
                        refine l_x rfl (x_mv rfl) ?_
                        refine l_call [] [] [_, _] rfl rfl Try.call23 rfl (c_Range _ _ _ _ _ (hA.le S35.le)) ?_
                        rintro _ w36 ⟨lo11236, hi11236, e11236, rfl, hl11236, hR11236⟩
                        have S37 := S35.step hl11236
                        have hR3 := hR11236
                        refine l_x rfl (x_mv rfl) ?_
                        refine l_x rfl (x_extract rfl rfl) ?_
                        refine l_x rfl (x_extract rfl rfl) ?_
                        refine l_x rfl (x_extract rfl rfl) ?_
                        refine l_x rfl (x_as rfl) ?_
                        refine l_x rfl (x_as rfl) ?_
                        refine l_x rfl (x_as rfl) ?_
                        refine l_nil ?_
                        refine r_seq ?_
                        refine r_region ?_
                        refine l_x rfl (x_load rfl (ld_blks (S37.blk 2 rfl) Try.isAgg24 Try.sizeOf24 rfl rfl)) ?_
                        refine l_x rfl (x_mv rfl) ?_
                        refine l_call [] [] [_, _] rfl rfl Try.call23 rfl (c_Range _ _ _ _ _ (vec_rd (S37.at 1 rfl))) ?_
                        rintro _ w38 ⟨lo11938, hi11938, e11938, rfl, hl11938, hR11938⟩
                        have S39 := S37.step hl11938
                        have hR4 := hR11938
                        refine l_x rfl (x_mv rfl) ?_
                        refine l_x rfl (x_extract rfl rfl) ?_
                        refine l_x rfl (x_extract rfl rfl) ?_
                        refine l_x rfl (x_extract rfl rfl) ?_
                        refine l_x rfl (x_as rfl) ?_
                        refine l_x rfl (x_as rfl) ?_
                        refine l_x rfl (x_as rfl) ?_
                        refine l_nil ?_
                        refine r_seq ?_
                        refine r_region ?_
                        refine l_call [] [] [] rfl rfl Try.call19 rfl (c_flowing _) ?_
                        rintro _ w40 ⟨rfl, hl42⟩
                        have S41 := S39.step hl42
                        refine l_x rfl (x_mv rfl) ?_
                        refine l_x rfl (x_mv rfl) ?_
                        refine l_x rfl (x_neq rfl rfl) ?_
                        refine l_x rfl (x_mv rfl) ?_
                        refine l_splitd (d := 127) rfl (fun hg127 => ?_) (fun hg127 => ?_)
                        · skip
                          refine l_pass rfl ?_
                          refine l_pass rfl ?_
                          refine l_pass rfl ?_
                          refine l_pass rfl ?_
                          refine l_pass rfl ?_
                          refine l_pass rfl ?_
                          refine l_pass rfl ?_
                          refine l_pass rfl ?_
                          refine l_pass rfl ?_
                          refine l_pass rfl ?_
                          refine l_pass rfl ?_
                          refine l_pass rfl ?_
                          refine l_x rfl (x_pick_t rfl rfl) ?_
                          refine l_x rfl (x_pick_t rfl rfl) ?_
                          refine l_x rfl (x_as rfl) ?_
                          refine l_nil ?_
                          refine r_ret (rs := [.tmp 14]) [_] Try.func3 rfl ⟨rfl, trivial⟩ ?_
                          exact ⟨rfl, S41.le⟩
                        · skip
                          refine l_x rfl (x_mv rfl) ?_
                          refine l_x rfl (x_eql rfl rfl) ?_
                          refine l_x rfl (x_mv rfl) ?_
                          refine l_splitd (d := 130) rfl (fun hg130 => ?_) (fun hg130 => ?_)
                          · skip
                            refine l_x rfl (x_mv rfl) ?_
                            refine l_x rfl (x_mv rfl) ?_
                            refine l_x rfl (x_leq rfl rfl) ?_
                            refine l_x rfl (x_pick_t rfl rfl) ?_
                            refine l_x rfl (x_mv rfl) ?_
                            refine l_splitd (d := 135) rfl (fun hg135 => ?_) (fun hg135 => ?_)
                            · skip
                              refine l_x rfl (x_mv rfl) ?_
                              refine l_x rfl (x_mv rfl) ?_
                              refine l_x rfl (x_leq rfl rfl) ?_
                              refine l_x rfl (x_pick_t rfl rfl) ?_
                              refine l_x rfl (x_pick_f rfl rfl) ?_
                              refine l_x rfl (x_pick_t rfl rfl) ?_
                              refine l_x rfl (x_as rfl) ?_
                              refine l_nil ?_
                              refine r_ret (rs := [.tmp 14]) [_] Try.func3 rfl ⟨rfl, trivial⟩ ?_
                              exact ⟨congrArg Value.bool (decide_eq_true (RaR.narrow hNw hV hR3 hR4 (Decidable.not_not.1 hg127)).2.2), S41.le⟩
                            · exact absurd (RaR.narrow hNw hV hR3 hR4 (Decidable.not_not.1 hg127)).2.1 hg135
                          · exact absurd (RaR.narrow hNw hV hR3 hR4 (Decidable.not_not.1 hg127)).1 hg130
                  · skip
                    refine l_pass rfl ?_
                    refine l_pass rfl ?_
                    refine l_pass rfl ?_
                    refine l_pass rfl ?_
                    refine l_pass rfl ?_
                    refine l_pass rfl ?_
                    refine l_pass rfl ?_
                    refine l_x rfl (x_pick_f rfl rfl) ?_
                    refine l_nil ?_
                    refine r_false rfl ?_
                    refine r_skip ?_
                    refine r_seq ?_
                    refine r_region ?_
                    refine l_x rfl (x_load rfl (ld_blks (S35.blk 0 rfl) Try.isAgg24 Try.sizeOf24 rfl rfl)) ?_
                    refine l_x rfl (x_mv rfl) ?_
                    refine l_call [] [] [_, _] rfl rfl Try.call23 rfl (c_Range _ _ _ _ _ (hA.le S35.le)) ?_
                    rintro _ w43 ⟨lo11243, hi11243, e11243, rfl, hl11243, hR11243⟩
                    have S44 := S35.step hl11243
                    have hR3 := hR11243
                    refine l_x rfl (x_mv rfl) ?_
                    refine l_x rfl (x_extract rfl rfl) ?_
                    refine l_x rfl (x_extract rfl rfl) ?_
                    refine l_x rfl (x_extract rfl rfl) ?_
                    refine l_x rfl (x_as rfl) ?_
                    refine l_x rfl (x_as rfl) ?_
                    refine l_x rfl (x_as rfl) ?_
                    refine l_nil ?_
                    refine r_seq ?_
                    refine r_region ?_
                    refine l_x rfl (x_load rfl (ld_blks (S44.blk 2 rfl) Try.isAgg24 Try.sizeOf24 rfl rfl)) ?_
                    refine l_x rfl (x_mv rfl) ?_
                    refine l_call [] [] [_, _] rfl rfl Try.call23 rfl (c_Range _ _ _ _ _ (vec_rd (S44.at 1 rfl))) ?_
                    rintro _ w45 ⟨lo11945, hi11945, e11945, rfl, hl11945, hR11945⟩
                    have S46 := S44.step hl11945
                    have hR4 := hR11945
                    refine l_x rfl (x_mv rfl) ?_
                    refine l_x rfl (x_extract rfl rfl) ?_
                    refine l_x rfl (x_extract rfl rfl) ?_
                    refine l_x rfl (x_extract rfl rfl) ?_
                    refine l_x rfl (x_as rfl) ?_
                    refine l_x rfl (x_as rfl) ?_
                    refine l_x rfl (x_as rfl) ?_
                    refine l_nil ?_
                    refine r_seq ?_
                    refine r_region ?_
                    refine l_call [] [] [] rfl rfl Try.call19 rfl (c_flowing _) ?_
                    rintro _ w47 ⟨rfl, hl49⟩
                    have S48 := S46.step hl49
                    refine l_x rfl (x_mv rfl) ?_
                    refine l_x rfl (x_mv rfl) ?_
                    refine l_x rfl (x_neq rfl rfl) ?_
                    refine l_x rfl (x_mv rfl) ?_
                    refine l_splitd (d := 127) rfl (fun hg127 => ?_) (fun hg127 => ?_)
                    · skip
                      refine l_pass rfl ?_
                      refine l_pass rfl ?_
                      refine l_pass rfl ?_
                      refine l_pass rfl ?_
                      refine l_pass rfl ?_
                      refine l_pass rfl ?_
                      refine l_pass rfl ?_
                      refine l_pass rfl ?_
                      refine l_pass rfl ?_
                      refine l_pass rfl ?_
                      refine l_pass rfl ?_
                      refine l_pass rfl ?_
                      refine l_x rfl (x_pick_t rfl rfl) ?_
                      refine l_x rfl (x_pick_t rfl rfl) ?_
                      refine l_x rfl (x_as rfl) ?_
                      refine l_nil ?_
                      refine r_ret (rs := [.tmp 14]) [_] Try.func3 rfl ⟨rfl, trivial⟩ ?_
                      exact ⟨rfl, S48.le⟩
                    · skip
                      refine l_x rfl (x_mv rfl) ?_
                      refine l_x rfl (x_eql rfl rfl) ?_
                      refine l_x rfl (x_mv rfl) ?_
                      refine l_splitd (d := 130) rfl (fun hg130 => ?_) (fun hg130 => ?_)
                      · skip
                        refine l_x rfl (x_mv rfl) ?_
                        refine l_x rfl (x_mv rfl) ?_
                        refine l_x rfl (x_leq rfl rfl) ?_
                        refine l_x rfl (x_pick_t rfl rfl) ?_
                        refine l_x rfl (x_mv rfl) ?_
                        refine l_splitd (d := 135) rfl (fun hg135 => ?_) (fun hg135 => ?_)
                        · skip
                          refine l_x rfl (x_mv rfl) ?_
                          refine l_x rfl (x_mv rfl) ?_
                          refine l_x rfl (x_leq rfl rfl) ?_
                          refine l_x rfl (x_pick_t rfl rfl) ?_
                          refine l_x rfl (x_pick_f rfl rfl) ?_
                          refine l_x rfl (x_pick_t rfl rfl) ?_
                          refine l_x rfl (x_as rfl) ?_
                          refine l_nil ?_
                          refine r_ret (rs := [.tmp 14]) [_] Try.func3 rfl ⟨rfl, trivial⟩ ?_
                          exact ⟨congrArg Value.bool (decide_eq_true (RaR.narrow hNw hV hR3 hR4 (Decidable.not_not.1 hg127)).2.2), S48.le⟩
                        · exact absurd (RaR.narrow hNw hV hR3 hR4 (Decidable.not_not.1 hg127)).2.1 hg135
                      · exact absurd (RaR.narrow hNw hV hR3 hR4 (Decidable.not_not.1 hg127)).1 hg130
              · skip
                refine l_pass rfl ?_
                refine l_pass rfl ?_
                refine l_x rfl (x_pick_f rfl rfl) ?_
                refine l_x rfl (x_pick_f rfl rfl) ?_
                refine l_nil ?_
                refine r_false rfl ?_
                refine r_skip ?_
                refine r_seq ?_
                refine r_region ?_
                refine l_x rfl (x_load rfl (ld_blks (S30.blk 0 rfl) Try.isAgg24 Try.sizeOf24 rfl rfl)) ?_
                refine l_x rfl (x_mv rfl) ?_
                refine l_call [] [] [_, _] rfl rfl Try.call22 rfl (c_Greatest _ _ _ _ _ (by first | omega | (rw [unit_length]; omega) | (rw [List.length_map]; omega) | decide) _ (hA.le S30.le) (Hw.le S30.le)) ?_
                rintro _ w50 ⟨n8550, vx8550, x8550, vp8550, p8550, e8550, rfl, hO8550, hR8550⟩
                have S51 := S30.join hO8550
                have hR1 := hR8550
                refine l_x rfl (x_mv rfl) ?_
                refine l_x rfl (x_extract rfl rfl) ?_
                refine l_x rfl (x_extract rfl rfl) ?_
                refine l_x rfl (x_extract rfl rfl) ?_
                refine l_x rfl (x_extract rfl rfl) ?_
                refine l_x rfl (x_as rfl) ?_
                refine l_x rfl (x_as rfl) ?_
                refine l_x rfl (x_as rfl) ?_
                refine l_x rfl (x_as rfl) ?_
                refine l_nil ?_
                refine r_seq ?_
                refine r_region ?_
                refine l_x rfl (x_load rfl (ld_blks (S51.blk 2 rfl) Try.isAgg24 Try.sizeOf24 rfl rfl)) ?_
                refine l_x rfl (x_mv rfl) ?_
                refine l_call [] [] [_, _] rfl rfl Try.call22 rfl (c_Greatest _ _ _ _ _ (by first | omega | (rw [unit_length]; omega) | (rw [List.length_map]; omega) | decide) _ (vec_rd (S51.at 1 rfl)) (Hw.le S51.le)) ?_
                rintro _ w52 ⟨n9352, vx9352, x9352, vp9352, p9352, e9352, rfl, hO9352, hR9352⟩
                have S53 := S51.join hO9352
                have hR2 := hR9352
                refine l_x rfl (x_mv rfl) ?_
                refine l_x rfl (x_extract rfl rfl) ?_
                refine l_x rfl (x_extract rfl rfl) ?_
                refine l_x rfl (x_extract rfl rfl) ?_
                refine l_x rfl (x_extract rfl rfl) ?_
                refine l_x rfl (x_as rfl) ?_
                refine l_x rfl (x_as rfl) ?_
                refine l_x rfl (x_as rfl) ?_
                refine l_x rfl (x_as rfl) ?_
                refine l_nil ?_
                refine r_seq ?_
                refine r_seq ?_
                refine r_region ?_
                refine l_x rfl (x_mv rfl) ?_
                refine l_x rfl (x_eql rfl rfl) ?_
                refine l_x rfl (x_mv rfl) ?_
                refine l_splitd (d := 100) rfl (fun hg100 => ?_) (fun hg100 => ?_)
                · skip
                  refine l_x rfl (x_mv rfl) ?_
                  refine l_x rfl (x_neq rfl rfl) ?_
                  refine l_x rfl (x_mv rfl) ?_
                  refine l_splitd (d := 103) rfl (fun hg103 => ?_) (fun hg103 => ?_)
                  · exact absurd (GrR.narrow hNw hV hR1 hR2 hg100).1 hg103
                  · skip
                    refine l_x rfl (x_mv rfl) ?_
                    refine l_x rfl (x_mv rfl) ?_
                    refine l_x rfl (x_gtr rfl rfl) ?_
                    refine l_x rfl (x_pick_f rfl rfl) ?_
                    refine l_x rfl (x_pick_t rfl rfl) ?_
                    refine l_nil ?_
                    refine r_ifd rfl (fun hc108 => ?_) (fun hc108 => ?_)
                    · exact absurd (GrR.narrow hNw hV hR1 hR2 hg100).2 (by omega)
                    · skip
                      refine r_skip ?_
                      refine r_seq ?_
                      refine r_region ?_
                      refine l_x rfl (x_load rfl (ld_blks (S53.blk 0 rfl) Try.isAgg24 Try.sizeOf24 rfl rfl)) ?_
                      refine l_x rfl (x_mv rfl) ?_
                      refine l_call [] [] [_, _] rfl rfl Try.call23 rfl (c_Range _ _ _ _ _ (hA.le S53.le)) ?_
                      rintro _ w54 ⟨lo11254, hi11254, e11254, rfl, hl11254, hR11254⟩
                      have S55 := S53.step hl11254
                      have hR3 := hR11254
                      refine l_x rfl (x_mv rfl) ?_
                      refine l_x rfl (x_extract rfl rfl) ?_
                      refine l_x rfl (x_extract rfl rfl) ?_
                      refine l_x rfl (x_extract rfl rfl) ?_
                      refine l_x rfl (x_as rfl) ?_
                      refine l_x rfl (x_as rfl) ?_
                      refine l_x rfl (x_as rfl) ?_
                      refine l_nil ?_
                      refine r_seq ?_
                      refine r_region ?_
                      refine l_x rfl (x_load rfl (ld_blks (S55.blk 2 rfl) Try.isAgg24 Try.sizeOf24 rfl rfl)) ?_
                      refine l_x rfl (x_mv rfl) ?_
                      refine l_call [] [] [_, _] rfl rfl Try.call23 rfl (c_Range _ _ _ _ _ (vec_rd (S55.at 1 rfl))) ?_
                      rintro _ w56 ⟨lo11956, hi11956, e11956, rfl, hl11956, hR11956⟩
                      have S57 := S55.step hl11956
                      have hR4 := hR11956
                      refine l_x rfl (x_mv rfl) ?_
                      refine l_x rfl (x_extract rfl rfl) ?_
                      refine l_x rfl (x_extract rfl rfl) ?_
                      refine l_x rfl (x_extract rfl rfl) ?_
                      refine l_x rfl (x_as rfl) ?_
                      refine l_x rfl (x_as rfl) ?_
                      refine l_x rfl (x_as rfl) ?_
                      refine l_nil ?_
                      refine r_seq ?_
                      refine r_region ?_
                      refine l_call [] [] [] rfl rfl Try.call19 rfl (c_flowing _) ?_
                      rintro _ w58 ⟨rfl, hl60⟩
                      have S59 := S57.step hl60
                      refine l_x rfl (x_mv rfl) ?_
                      refine l_x rfl (x_mv rfl) ?_
                      refine l_x rfl (x_neq rfl rfl) ?_
                      refine l_x rfl (x_mv rfl) ?_
                      refine l_splitd (d := 127) rfl (fun hg127 => ?_) (fun hg127 => ?_)
                      · skip
                        refine l_pass rfl ?_
                        refine l_pass rfl ?_
                        refine l_pass rfl ?_
                        refine l_pass rfl ?_
                        refine l_pass rfl ?_
                        refine l_pass rfl ?_
                        refine l_pass rfl ?_
                        refine l_pass rfl ?_
                        refine l_pass rfl ?_
                        refine l_pass rfl ?_
                        refine l_pass rfl ?_
                        refine l_pass rfl ?_
                        refine l_x rfl (x_pick_t rfl rfl) ?_
                        refine l_x rfl (x_pick_t rfl rfl) ?_
                        refine l_x rfl (x_as rfl) ?_
                        refine l_nil ?_
                        refine r_ret (rs := [.tmp 14]) [_] Try.func3 rfl ⟨rfl, trivial⟩ ?_
                        exact ⟨rfl, S59.le⟩
                      · skip
                        refine l_x rfl (x_mv rfl) ?_
                        refine l_x rfl (x_eql rfl rfl) ?_
                        refine l_x rfl (x_mv rfl) ?_
                        refine l_splitd (d := 130) rfl (fun hg130 => ?_) (fun hg130 => ?_)
                        · skip
                          refine l_x rfl (x_mv rfl) ?_
                          refine l_x rfl (x_mv rfl) ?_
                          refine l_x rfl (x_leq rfl rfl) ?_
                          refine l_x rfl (x_pick_t rfl rfl) ?_
                          refine l_x rfl (x_mv rfl) ?_
                          refine l_splitd (d := 135) rfl (fun hg135 => ?_) (fun hg135 => ?_)
                          · skip
                            refine l_x rfl (x_mv rfl) ?_
                            refine l_x rfl (x_mv rfl) ?_
                            refine l_x rfl (x_leq rfl rfl) ?_
                            refine l_x rfl (x_pick_t rfl rfl) ?_
                            refine l_x rfl (x_pick_f rfl rfl) ?_
                            refine l_x rfl (x_pick_t rfl rfl) ?_
                            refine l_x rfl (x_as rfl) ?_
                            refine l_nil ?_
                            refine r_ret (rs := [.tmp 14]) [_] Try.func3 rfl ⟨rfl, trivial⟩ ?_
                            exact ⟨congrArg Value.bool (decide_eq_true (RaR.narrow hNw hV hR3 hR4 (Decidable.not_not.1 hg127)).2.2), S59.le⟩
                          · exact absurd (RaR.narrow hNw hV hR3 hR4 (Decidable.not_not.1 hg127)).2.1 hg135
                        · exact absurd (RaR.narrow hNw hV hR3 hR4 (Decidable.not_not.1 hg127)).1 hg130
                · skip
                  refine l_pass rfl ?_
                  refine l_pass rfl ?_
                  refine l_pass rfl ?_
                  refine l_pass rfl ?_
                  refine l_pass rfl ?_
                  refine l_pass rfl ?_
                  refine l_pass rfl ?_
                  refine l_x rfl (x_pick_f rfl rfl) ?_
                  refine l_nil ?_
                  refine r_false rfl ?_
                  refine r_skip ?_
                  refine r_seq ?_
                  refine r_region ?_
                  refine l_x rfl (x_load rfl (ld_blks (S53.blk 0 rfl) Try.isAgg24 Try.sizeOf24 rfl rfl)) ?_
                  refine l_x rfl (x_mv rfl) ?_
                  refine l_call [] [] [_, _] rfl rfl Try.call23 rfl (c_Range _ _ _ _ _ (hA.le S53.le)) ?_
                  rintro _ w61 ⟨lo11261, hi11261, e11261, rfl, hl11261, hR11261⟩
                  have S62 := S53.step hl11261
                  have hR3 := hR11261
                  refine l_x rfl (x_mv rfl) ?_
                  refine l_x rfl (x_extract rfl rfl) ?_
                  refine l_x rfl (x_extract rfl rfl) ?_
                  refine l_x rfl (x_extract rfl rfl) ?_
                  refine l_x rfl (x_as rfl) ?_
                  refine l_x rfl (x_as rfl) ?_
                  refine l_x rfl (x_as rfl) ?_
                  refine l_nil ?_
                  refine r_seq ?_
                  refine r_region ?_
                  refine l_x rfl (x_load rfl (ld_blks (S62.blk 2 rfl) Try.isAgg24 Try.sizeOf24 rfl rfl)) ?_
                  refine l_x rfl (x_mv rfl) ?_
                  refine l_call [] [] [_, _] rfl rfl Try.call23 rfl (c_Range _ _ _ _ _ (vec_rd (S62.at 1 rfl))) ?_
                  rintro _ w63 ⟨lo11963, hi11963, e11963, rfl, hl11963, hR11963⟩
                  have S64 := S62.step hl11963
                  have hR4 := hR11963
                  refine l_x rfl (x_mv rfl) ?_
                  refine l_x rfl (x_extract rfl rfl) ?_
                  refine l_x rfl (x_extract rfl rfl) ?_
                  refine l_x rfl (x_extract rfl rfl) ?_
                  refine l_x rfl (x_as rfl) ?_
                  refine l_x rfl (x_as rfl) ?_
                  refine l_x rfl (x_as rfl) ?_
                  refine l_nil ?_
                  refine r_seq ?_
                  refine r_region ?_
                  refine l_call [] [] [] rfl rfl Try.call19 rfl (c_flowing _) ?_
                  rintro _ w65 ⟨rfl, hl67⟩
                  have S66 := S64.step hl67
                  refine l_x rfl (x_mv rfl) ?_
                  refine l_x rfl (x_mv rfl) ?_
                  refine l_x rfl (x_neq rfl rfl) ?_
                  refine l_x rfl (x_mv rfl) ?_
                  refine l_splitd (d := 127) rfl (fun hg127 => ?_) (fun hg127 => ?_)
                  · skip
                    refine l_pass rfl ?_
                    refine l_pass rfl ?_
                    refine l_pass rfl ?_
                    refine l_pass rfl ?_
                    refine l_pass rfl ?_
                    refine l_pass rfl ?_
                    refine l_pass rfl ?_
                    refine l_pass rfl ?_
                    refine l_pass rfl ?_
                    refine l_pass rfl ?_
                    refine l_pass rfl ?_
                    refine l_pass rfl ?_
                    refine l_x rfl (x_pick_t rfl rfl) ?_
                    refine l_x rfl (x_pick_t rfl rfl) ?_
                    refine l_x rfl (x_as rfl) ?_
                    refine l_nil ?_
                    refine r_ret (rs := [.tmp 14]) [_] Try.func3 rfl ⟨rfl, trivial⟩ ?_
                    exact ⟨rfl, S66.le⟩
                  · skip
                    refine l_x rfl (x_mv rfl) ?_
                    refine l_x rfl (x_eql rfl rfl) ?_
                    refine l_x rfl (x_mv rfl) ?_
                    refine l_splitd (d := 130) rfl (fun hg130 => ?_) (fun hg130 => ?_)
                    · skip
                      refine l_x rfl (x_mv rfl) ?_
                      refine l_x rfl (x_mv rfl) ?_
                      refine l_x rfl (x_leq rfl rfl) ?_
                      refine l_x rfl (x_pick_t rfl rfl) ?_
                      refine l_x rfl (x_mv rfl) ?_
                      refine l_splitd (d := 135) rfl (fun hg135 => ?_) (fun hg135 => ?_)
                      · skip
                        refine l_x rfl (x_mv rfl) ?_
                        refine l_x rfl (x_mv rfl) ?_
                        refine l_x rfl (x_leq rfl rfl) ?_
                        refine l_x rfl (x_pick_t rfl rfl) ?_
                        refine l_x rfl (x_pick_f rfl rfl) ?_
                        refine l_x rfl (x_pick_t rfl rfl) ?_
                        refine l_x rfl (x_as rfl) ?_
                        refine l_nil ?_
                        refine r_ret (rs := [.tmp 14]) [_] Try.func3 rfl ⟨rfl, trivial⟩ ?_
                        exact ⟨congrArg Value.bool (decide_eq_true (RaR.narrow hNw hV hR3 hR4 (Decidable.not_not.1 hg127)).2.2), S66.le⟩
                      · exact absurd (RaR.narrow hNw hV hR3 hR4 (Decidable.not_not.1 hg127)).2.1 hg135
                    · exact absurd (RaR.narrow hNw hV hR3 hR4 (Decidable.not_not.1 hg127)).1 hg130
        · skip
          have S68 := S6.add hl5417 hN5417
          refine l_x rfl (x_mv rfl) ?_
          refine l_x rfl (x_extract rfl rfl) ?_
          refine l_x rfl (x_extract rfl rfl) ?_
          refine l_alloc S68 rfl Try.zeroValue24 rfl ?_
          intro b72 w69 S70 hl71
          refine l_stores (vs := [_, _]) S70 2 rfl rfl rfl rfl (ones_cons rfl (ones_cons (Rd.one (vec_rd (S70.at 1 rfl))) ones_nil)) Try.sizeOf24 (by first | exact Nat.le_refl _ | simp) (splice_all rfl) ?_
          intro w73 S74 hk75
          refine l_x rfl (x_as rfl) ?_
          refine l_nil ?_
          refine r_seq ?_
          refine r_seq ?_
          refine r_region ?_
          refine l_x rfl (x_mv rfl) ?_
          refine l_x rfl (x_neq rfl rfl) ?_
          refine l_nil ?_
          refine r_ifd rfl (fun hc58 => ?_) (fun hc58 => ?_)
          · skip
            refine r_seq ?_
            refine r_region ?_
            refine l_call [] [] [] rfl rfl Try.call19 rfl (c_flowing _) ?_
            rintro _ w76 ⟨rfl, hl78⟩
            have S77 := S74.step hl78
            refine l_x rfl (x_as rfl) ?_
            refine l_nil ?_
            refine r_ret (rs := [.tmp 14]) [_] Try.func3 rfl ⟨rfl, trivial⟩ ?_
            exact ⟨rfl, S77.le⟩
          · exact absurd (Decidable.not_not.1 hc58) hn05417

end Go.Proofs
