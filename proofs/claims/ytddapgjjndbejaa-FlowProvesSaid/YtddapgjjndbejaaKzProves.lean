/-
  The statement of FlowProves: for every input the law returns true, and its arguments read as they did. No condition.
-/
import Derived.Test.YtddapgjjndbejaaKg
/-
  Contracts of functions of the program: each by symbolic execution of its text.
-/
namespace Go.Proofs
open Go Go.Vk Go.Vk.Flow

set_option maxHeartbeats 4000000 in
/-- couchant/couchantlaw06.FlowProves. -/
theorem lawProves (N : Int) (va : Value) (arcs : List Arc) (vw : Value) (wl : List Int) (vx : Value) (x : List Int) (vp : Value) (p : List Int) (w : World) (hA : Rd EA w va arcs) (Hwl : Rd EI w vw wl) (Hx : Rd EI w vx x) (Hp : Rd EI w vp p) :
    Cl Try.prog 11 #[.agg #[.int .i64 N, va], vw, vx, vp] w fun v w' => v = .bool true ∧ Le w w' := by
  refine fn_of_run (args := [_, _, _, _]) 143 Try.func11 rfl rfl rfl fun cs => ?_
  have S := Own.start (X := nob) w
  refine r_seq ?_
  refine r_region ?_
  refine l_box S rfl rfl ?_
  intro b4 w1 S2 hl3
  refine l_x rfl (x_as rfl) ?_
  refine l_nil ?_
  refine r_seq ?_
  refine r_seq ?_
  refine r_region ?_
  refine l_x rfl (x_load rfl (ld_blks (S2.blk 0 rfl) Try.isAgg24 Try.sizeOf24 rfl rfl)) ?_
  refine l_call [] [] [_] rfl rfl Try.call18 rfl (c_small _ _ _ _ (hA.le S2.le)) ?_
  rintro _ w5 ⟨rfl, hl7⟩
  have S6 := S2.step hl7
  refine l_x rfl (x_not rfl) ?_
  refine l_x rfl (x_mv rfl) ?_
  refine l_split (d := 28) rfl (fun hg28 => ?_) (fun hg28 => ?_)
  · skip
    refine l_pass rfl ?_
    refine l_pass rfl ?_
    refine l_pass rfl ?_
    refine l_pass rfl ?_
    refine l_pass rfl ?_
    refine l_x rfl (x_pick_t rfl rfl) ?_
    refine l_nil ?_
    refine r_true rfl ?_
    refine r_seq ?_
    refine r_region ?_
    refine l_call [] [] [] rfl rfl Try.call19 rfl (c_flowing _) ?_
    rintro _ w8 ⟨rfl, hl10⟩
    have S9 := S6.step hl10
    refine l_x rfl (x_as rfl) ?_
    refine l_nil ?_
    refine r_ret (rs := [.tmp 8]) [_] Try.func11 rfl ⟨rfl, trivial⟩ ?_
    exact ⟨rfl, S9.le⟩
  · skip
    refine l_x rfl (x_mv rfl) ?_
    refine l_x rfl (x_mv rfl) ?_
    refine l_x rfl (x_mv rfl) ?_
    refine l_call [] [] [_, _, _] rfl rfl Try.call30 rfl (c_short _ _ _ _ _ _ _ (Hwl.le S6.le) (Hx.le S6.le) (Hp.le S6.le)) ?_
    rintro _ w11 ⟨rfl, hl13⟩
    have S12 := S6.step hl13
    refine l_x rfl (x_notd rfl) ?_
    refine l_x rfl (x_pick_f rfl rfl) ?_
    refine l_nil ?_
    refine r_ifd rfl (fun hc34 => ?_) (fun hc34 => ?_)
    · skip
      refine r_seq ?_
      refine r_region ?_
      refine l_call [] [] [] rfl rfl Try.call19 rfl (c_flowing _) ?_
      rintro _ w14 ⟨rfl, hl16⟩
      have S15 := S12.step hl16
      refine l_x rfl (x_as rfl) ?_
      refine l_nil ?_
      refine r_ret (rs := [.tmp 8]) [_] Try.func11 rfl ⟨rfl, trivial⟩ ?_
      exact ⟨rfl, S15.le⟩
    · skip
      refine r_skip ?_
      refine r_seq ?_
      refine r_region ?_
      refine l_x rfl (x_load rfl (ld_blks (S12.blk 0 rfl) Try.isAgg24 Try.sizeOf24 rfl rfl)) ?_
      refine l_x rfl (x_mv rfl) ?_
      refine l_call [] [] [_, _] rfl rfl Try.call21 rfl (c_KeptR2 _ _ _ _ _ (by first | omega | (rw [unit_length]; omega) | (rw [List.length_map]; omega) | decide) _ (hA.le S12.le) (Hx.le S12.le)) ?_
      rintro _ w17 (⟨e3917, rfl, hl3917, hR3917⟩ | ⟨e3917, rfl, hl3917, hR3917⟩)
      · skip
        have S18 := S12.step hl3917
        have hRK := hR3917
        refine l_x rfl (x_mv rfl) ?_
        refine l_x rfl (x_extract rfl rfl) ?_
        refine l_x rfl (x_extract rfl rfl) ?_
        refine l_x rfl (x_as rfl) ?_
        refine l_x rfl (x_as rfl) ?_
        refine l_nil ?_
        refine r_seq ?_
        refine r_region ?_
        refine l_x rfl (x_load rfl (ld_blks (S18.blk 0 rfl) Try.isAgg24 Try.sizeOf24 rfl rfl)) ?_
        refine l_x rfl (x_mv rfl) ?_
        refine l_x rfl (x_mv rfl) ?_
        refine l_call [] [] [_, _, _] rfl rfl Try.call32 rfl (c_SumR _ _ _ _ _ _ _ (by first | omega | (rw [unit_length]; omega) | (rw [List.length_map]; omega) | decide) (by first | omega | (rw [unit_length]; omega) | (rw [List.length_map]; omega) | decide) _ (hA.le S18.le) (Hwl.le S18.le) (Hx.le S18.le)) ?_
        rintro _ w19 ⟨k4619, e4619, rfl, hl4619, hR4619⟩
        have S20 := S18.step hl4619
        have hRS := hR4619
        refine l_x rfl (x_mv rfl) ?_
        refine l_x rfl (x_extract rfl rfl) ?_
        refine l_x rfl (x_extract rfl rfl) ?_
        refine l_x rfl (x_as rfl) ?_
        refine l_x rfl (x_as rfl) ?_
        refine l_nil ?_
        refine r_seq ?_
        refine r_seq ?_
        refine r_region ?_
        refine l_x rfl (x_mv rfl) ?_
        refine l_x rfl (x_neq rfl rfl) ?_
        refine l_x rfl (x_mv rfl) ?_
        refine l_splitd (d := 51) rfl (fun hg51 => ?_) (fun hg51 => ?_)
        · skip
          refine l_pass rfl ?_
          refine l_pass rfl ?_
          refine l_x rfl (x_pick_t rfl rfl) ?_
          refine l_x rfl (x_mv rfl) ?_
          refine l_pass rfl ?_
          refine l_pass rfl ?_
          refine l_x rfl (x_pick_t rfl rfl) ?_
          refine l_nil ?_
          refine r_true rfl ?_
          refine r_seq ?_
          refine r_region ?_
          refine l_call [] [] [] rfl rfl Try.call19 rfl (c_flowing _) ?_
          rintro _ w21 ⟨rfl, hl23⟩
          have S22 := S20.step hl23
          refine l_x rfl (x_as rfl) ?_
          refine l_nil ?_
          refine r_ret (rs := [.tmp 8]) [_] Try.func11 rfl ⟨rfl, trivial⟩ ?_
          exact ⟨rfl, S22.le⟩
        · skip
          refine l_x rfl (x_mv rfl) ?_
          refine l_x rfl (x_neq rfl rfl) ?_
          refine l_x rfl (x_pick_f rfl rfl) ?_
          refine l_x rfl (x_mv rfl) ?_
          refine l_splitd (d := 55) rfl (fun hg55 => ?_) (fun hg55 => ?_)
          · skip
            refine l_pass rfl ?_
            refine l_pass rfl ?_
            refine l_x rfl (x_pick_t rfl rfl) ?_
            refine l_nil ?_
            refine r_true rfl ?_
            refine r_seq ?_
            refine r_region ?_
            refine l_call [] [] [] rfl rfl Try.call19 rfl (c_flowing _) ?_
            rintro _ w24 ⟨rfl, hl26⟩
            have S25 := S20.step hl26
            refine l_x rfl (x_as rfl) ?_
            refine l_nil ?_
            refine r_ret (rs := [.tmp 8]) [_] Try.func11 rfl ⟨rfl, trivial⟩ ?_
            exact ⟨rfl, S25.le⟩
          · skip
            refine l_x rfl (x_mv rfl) ?_
            refine l_x rfl (x_not rfl) ?_
            refine l_x rfl (x_pick_f rfl rfl) ?_
            refine l_nil ?_
            refine r_false rfl ?_
            refine r_skip ?_
            refine r_seq ?_
            have S27 := S20.pick (L' := [_]) [0] (by decide) rfl
            refine r_forget [(1, vw), (2, vx), (3, vp), (4, .pointer (some ⟨b4, 0, none⟩)), (11, .int .i64 k4619)] ⟨rfl, rfl, rfl, rfl, rfl, trivial⟩ ?_
            intro ρ28
            refine r_region ?_
            refine l_x rfl (x_load rfl (ld_blks (S27.blk 0 rfl) Try.isAgg24 Try.sizeOf24 rfl rfl)) ?_
            refine l_x rfl (x_mv rfl) ?_
            refine l_x rfl (x_mv rfl) ?_
            refine l_call [] [] [_, _, _] rfl rfl Try.call34 rfl (c_BoundR _ _ _ _ _ _ _ (by first | omega | (rw [unit_length]; omega) | (rw [List.length_map]; omega) | decide) (by first | omega | (rw [unit_length]; omega) | (rw [List.length_map]; omega) | decide) _ (hA.le S27.le) (Hwl.le S27.le) (Hp.le S27.le)) ?_
            rintro _ w29 ⟨k6429, e6429, rfl, hl6429, hR6429⟩
            have S30 := S27.step hl6429
            have hRB := hR6429
            refine l_x rfl (x_mv rfl) ?_
            refine l_x rfl (x_extract rfl rfl) ?_
            refine l_x rfl (x_extract rfl rfl) ?_
            refine l_x rfl (x_as rfl) ?_
            refine l_x rfl (x_as rfl) ?_
            refine l_nil ?_
            refine r_seq ?_
            refine r_region ?_
            refine l_x rfl (x_load rfl (ld_blks (S30.blk 0 rfl) Try.isAgg24 Try.sizeOf24 rfl rfl)) ?_
            refine l_x rfl (x_mv rfl) ?_
            refine l_x rfl (x_mv rfl) ?_
            refine l_x rfl (x_mv rfl) ?_
            refine l_call [] [] [_, _, _, _] rfl rfl Try.call38 rfl (c_CheckBestR2 _ _ _ _ _ _ _ _ _ (by first | omega | (rw [unit_length]; omega) | (rw [List.length_map]; omega) | decide) (by first | omega | (rw [unit_length]; omega) | (rw [List.length_map]; omega) | decide) (by first | omega | (rw [unit_length]; omega) | (rw [List.length_map]; omega) | decide) _ (hA.le S30.le) (Hwl.le S30.le) (Hx.le S30.le) (Hp.le S30.le)) ?_
            rintro _ w31 (⟨e7231, rfl, hl7231, hR7231⟩ | ⟨e7231, rfl, hl7231, hR7231⟩)
            · skip
              have S32 := S30.step hl7231
              have hRC := hR7231
              refine l_x rfl (x_mv rfl) ?_
              refine l_x rfl (x_extract rfl rfl) ?_
              refine l_x rfl (x_extract rfl rfl) ?_
              refine l_x rfl (x_as rfl) ?_
              refine l_x rfl (x_as rfl) ?_
              refine l_nil ?_
              refine r_seq ?_
              have S33 := S32.pick (L' := [_]) [0] (by decide) rfl
              refine r_forget [(1, vw), (4, .pointer (some ⟨b4, 0, none⟩)), (11, .int .i64 k4619), (13, .int .i64 k6429), (14, .int .i64 e6429), (15, .bool true), (16, .int .i64 e7231)] ⟨rfl, rfl, rfl, rfl, rfl, rfl, rfl, trivial⟩ ?_
              intro ρ34
              refine r_region ?_
              refine l_x rfl (x_load rfl (ld_blks (S33.blk 0 rfl) Try.isAgg24 Try.sizeOf24 rfl rfl)) ?_
              refine l_x rfl (x_mv rfl) ?_
              refine l_call [] [] [_, _] rfl rfl Try.call22 rfl (c_Greatest _ _ _ _ _ (by first | omega | (rw [unit_length]; omega) | (rw [List.length_map]; omega) | decide) _ (hA.le S33.le) (Hwl.le S33.le)) ?_
              rintro _ w35 ⟨n7835, vx7835, x7835, vp7835, p7835, e7835, rfl, hO7835, hR7835⟩
              have S36 := S33.join hO7835
              have hb7835 := hR7835.bd
              have hRG := hR7835
              refine l_x rfl (x_mv rfl) ?_
              refine l_x rfl (x_extract rfl rfl) ?_
              refine l_x rfl (x_extract rfl rfl) ?_
              refine l_x rfl (x_extract rfl rfl) ?_
              refine l_x rfl (x_extract rfl rfl) ?_
              refine l_x rfl (x_as rfl) ?_
              refine l_x rfl (x_as rfl) ?_
              refine l_x rfl (x_as rfl) ?_
              refine l_x rfl (x_as rfl) ?_
              refine l_nil ?_
              refine r_seq ?_
              refine r_region ?_
              refine l_x rfl (x_load rfl (ld_blks (S36.blk 0 rfl) Try.isAgg24 Try.sizeOf24 rfl rfl)) ?_
              refine l_x rfl (x_mv rfl) ?_
              refine l_call [] [] [_, _] rfl rfl Try.call42 rfl (c_Least _ _ _ _ _ (by first | omega | (rw [unit_length]; omega) | (rw [List.length_map]; omega) | decide) _ (hA.le S36.le) (Hwl.le S36.le)) ?_
              rintro _ w37 ⟨n8637, vx8637, x8637, vp8637, p8637, e8637, rfl, hO8637, hR8637⟩
              have S38 := S36.join hO8637
              have hRL := hR8637
              refine l_x rfl (x_mv rfl) ?_
              refine l_x rfl (x_extract rfl rfl) ?_
              refine l_x rfl (x_extract rfl rfl) ?_
              refine l_x rfl (x_extract rfl rfl) ?_
              refine l_x rfl (x_extract rfl rfl) ?_
              refine l_x rfl (x_as rfl) ?_
              refine l_x rfl (x_as rfl) ?_
              refine l_x rfl (x_as rfl) ?_
              refine l_x rfl (x_as rfl) ?_
              refine l_nil ?_
              refine r_seq ?_
              refine r_seq ?_
              have hP := provesT hRK hRS hRB hRC hRG hRL (by omega) rfl
              refine r_region ?_
              refine l_x rfl (x_mv rfl) ?_
              refine l_x rfl (x_neq rfl rfl) ?_
              refine l_x rfl (x_mv rfl) ?_
              refine l_splitd (d := 93) rfl (fun hg93 => ?_) (fun hg93 => ?_)
              · skip
                refine l_pass rfl ?_
                refine l_pass rfl ?_
                refine l_x rfl (x_pick_t rfl rfl) ?_
                refine l_x rfl (x_mv rfl) ?_
                refine l_pass rfl ?_
                refine l_pass rfl ?_
                refine l_pass rfl ?_
                refine l_x rfl (x_pick_t rfl rfl) ?_
                refine l_x rfl (x_mv rfl) ?_
                refine l_pass rfl ?_
                refine l_pass rfl ?_
                refine l_pass rfl ?_
                refine l_x rfl (x_pick_t rfl rfl) ?_
                refine l_x rfl (x_mv rfl) ?_
                refine l_pass rfl ?_
                refine l_pass rfl ?_
                refine l_pass rfl ?_
                refine l_x rfl (x_pick_t rfl rfl) ?_
                refine l_nil ?_
                refine r_true rfl ?_
                refine r_seq ?_
                refine r_region ?_
                refine l_x rfl (x_as rfl) ?_
                refine l_nil ?_
                refine r_ret (rs := [.tmp 8]) [_] Try.func11 rfl ⟨rfl, trivial⟩ ?_
                exact ⟨congrArg Value.bool (by exfalso; omega), S38.le⟩
              · skip
                refine l_x rfl (x_mv rfl) ?_
                refine l_x rfl (x_neq rfl rfl) ?_
                refine l_x rfl (x_pick_f rfl rfl) ?_
                refine l_x rfl (x_mv rfl) ?_
                refine l_splitd (d := 97) rfl (fun hg97 => ?_) (fun hg97 => ?_)
                · skip
                  refine l_pass rfl ?_
                  refine l_pass rfl ?_
                  refine l_pass rfl ?_
                  refine l_x rfl (x_pick_t rfl rfl) ?_
                  refine l_x rfl (x_mv rfl) ?_
                  refine l_pass rfl ?_
                  refine l_pass rfl ?_
                  refine l_pass rfl ?_
                  refine l_x rfl (x_pick_t rfl rfl) ?_
                  refine l_x rfl (x_mv rfl) ?_
                  refine l_pass rfl ?_
                  refine l_pass rfl ?_
                  refine l_pass rfl ?_
                  refine l_x rfl (x_pick_t rfl rfl) ?_
                  refine l_nil ?_
                  refine r_true rfl ?_
                  refine r_seq ?_
                  refine r_region ?_
                  refine l_x rfl (x_as rfl) ?_
                  refine l_nil ?_
                  refine r_ret (rs := [.tmp 8]) [_] Try.func11 rfl ⟨rfl, trivial⟩ ?_
                  exact ⟨congrArg Value.bool (by exfalso; omega), S38.le⟩
                · skip
                  refine l_x rfl (x_mv rfl) ?_
                  refine l_x rfl (x_mv rfl) ?_
                  refine l_x rfl (x_gtr rfl rfl) ?_
                  refine l_x rfl (x_pick_f rfl rfl) ?_
                  refine l_x rfl (x_mv rfl) ?_
                  refine l_splitd (d := 102) rfl (fun hg102 => ?_) (fun hg102 => ?_)
                  · skip
                    refine l_pass rfl ?_
                    refine l_pass rfl ?_
                    refine l_pass rfl ?_
                    refine l_x rfl (x_pick_t rfl rfl) ?_
                    refine l_x rfl (x_mv rfl) ?_
                    refine l_pass rfl ?_
                    refine l_pass rfl ?_
                    refine l_pass rfl ?_
                    refine l_x rfl (x_pick_t rfl rfl) ?_
                    refine l_nil ?_
                    refine r_true rfl ?_
                    refine r_seq ?_
                    refine r_region ?_
                    refine l_x rfl (x_as rfl) ?_
                    refine l_nil ?_
                    refine r_ret (rs := [.tmp 8]) [_] Try.func11 rfl ⟨rfl, trivial⟩ ?_
                    exact ⟨congrArg Value.bool (by exfalso; omega), S38.le⟩
                  · skip
                    refine l_x rfl (x_mv rfl) ?_
                    refine l_x rfl (x_mv rfl) ?_
                    refine l_x rfl (x_lss rfl rfl) ?_
                    refine l_x rfl (x_pick_f rfl rfl) ?_
                    refine l_x rfl (x_mv rfl) ?_
                    refine l_splitd (d := 107) rfl (fun hg107 => ?_) (fun hg107 => ?_)
                    · skip
                      refine l_pass rfl ?_
                      refine l_pass rfl ?_
                      refine l_pass rfl ?_
                      refine l_x rfl (x_pick_t rfl rfl) ?_
                      refine l_nil ?_
                      refine r_true rfl ?_
                      refine r_seq ?_
                      refine r_region ?_
                      refine l_x rfl (x_as rfl) ?_
                      refine l_nil ?_
                      refine r_ret (rs := [.tmp 8]) [_] Try.func11 rfl ⟨rfl, trivial⟩ ?_
                      exact ⟨congrArg Value.bool (by exfalso; omega), S38.le⟩
                    · skip
                      refine l_x rfl (x_mv rfl) ?_
                      refine l_x rfl (x_mv rfl) ?_
                      refine l_x rfl (x_neq rfl rfl) ?_
                      refine l_x rfl (x_pick_f rfl rfl) ?_
                      refine l_nil ?_
                      refine r_ifd rfl (fun hc111 => ?_) (fun hc111 => ?_)
                      · skip
                        refine r_seq ?_
                        refine r_region ?_
                        refine l_x rfl (x_as rfl) ?_
                        refine l_nil ?_
                        refine r_ret (rs := [.tmp 8]) [_] Try.func11 rfl ⟨rfl, trivial⟩ ?_
                        exact ⟨congrArg Value.bool (by exfalso; omega), S38.le⟩
                      · skip
                        refine r_skip ?_
                        refine r_seq ?_
                        refine r_region ?_
                        refine l_call [] [] [] rfl rfl Try.call19 rfl (c_flowing _) ?_
                        rintro _ w39 ⟨rfl, hl41⟩
                        have S40 := S38.step hl41
                        refine l_x rfl (x_mv rfl) ?_
                        refine l_x rfl (x_mv rfl) ?_
                        refine l_x rfl (x_neq rfl rfl) ?_
                        refine l_x rfl (x_mv rfl) ?_
                        refine l_splitd (d := 116) rfl (fun hg116 => ?_) (fun hg116 => ?_)
                        · skip
                          refine l_pass rfl ?_
                          refine l_pass rfl ?_
                          refine l_pass rfl ?_
                          refine l_pass rfl ?_
                          refine l_pass rfl ?_
                          refine l_pass rfl ?_
                          refine l_pass rfl ?_
                          refine l_pass rfl ?_
                          refine l_pass rfl ?_
                          refine l_pass rfl ?_
                          refine l_pass rfl ?_
                          refine l_pass rfl ?_
                          refine l_pass rfl ?_
                          refine l_pass rfl ?_
                          refine l_pass rfl ?_
                          refine l_x rfl (x_pick_t rfl rfl) ?_
                          refine l_x rfl (x_pick_t rfl rfl) ?_
                          refine l_x rfl (x_mv rfl) ?_
                          refine l_x rfl (x_mv rfl) ?_
                          refine l_x rfl (x_not rfl) ?_
                          refine l_x rfl (x_mv rfl) ?_
                          refine l_x rfl (x_mv rfl) ?_
                          refine l_x rfl (x_mv rfl) ?_
                          refine l_x rfl (x_eql rfl rfl) ?_
                          refine l_x rfl (x_pick_f rfl rfl) ?_
                          refine l_x rfl (x_pick_t rfl rfl) ?_
                          refine l_x rfl (x_as rfl) ?_
                          refine l_nil ?_
                          refine r_ret (rs := [.tmp 8]) [_] Try.func11 rfl ⟨rfl, trivial⟩ ?_
                          exact ⟨congrArg Value.bool (decide_eq_true (by omega)), S40.le⟩
                        · skip
                          refine l_x rfl (x_mv rfl) ?_
                          refine l_x rfl (x_mv rfl) ?_
                          refine l_x rfl (x_leq rfl rfl) ?_
                          refine l_x rfl (x_mv rfl) ?_
                          refine l_splitd (d := 120) rfl (fun hg120 => ?_) (fun hg120 => ?_)
                          · skip
                            refine l_x rfl (x_mv rfl) ?_
                            refine l_x rfl (x_mv rfl) ?_
                            refine l_x rfl (x_leq rfl rfl) ?_
                            refine l_x rfl (x_pick_t rfl rfl) ?_
                            refine l_x rfl (x_mv rfl) ?_
                            refine l_splitd (d := 125) rfl (fun hg125 => ?_) (fun hg125 => ?_)
                            · skip
                              refine l_x rfl (x_mv rfl) ?_
                              refine l_x rfl (x_mv rfl) ?_
                              refine l_x rfl (x_mv rfl) ?_
                              refine l_x rfl (x_eql rfl rfl) ?_
                              refine l_x rfl (x_beqT Try.runUnderlying4 rfl rfl) ?_
                              refine l_x rfl (x_pick_t rfl rfl) ?_
                              refine l_x rfl (x_pick_f rfl rfl) ?_
                              refine l_x rfl (x_pick_t rfl rfl) ?_
                              refine l_x rfl (x_mv rfl) ?_
                              refine l_splitd (d := 134) rfl (fun hg134 => ?_) (fun hg134 => ?_)
                              · skip
                                refine l_x rfl (x_mv rfl) ?_
                                refine l_x rfl (x_not rfl) ?_
                                refine l_x rfl (x_mv rfl) ?_
                                refine l_x rfl (x_mv rfl) ?_
                                refine l_x rfl (x_mv rfl) ?_
                                refine l_x rfl (x_eql rfl rfl) ?_
                                refine l_x rfl (x_pick_f rfl rfl) ?_
                                refine l_x rfl (x_pick_t rfl rfl) ?_
                                refine l_x rfl (x_as rfl) ?_
                                refine l_nil ?_
                                refine r_ret (rs := [.tmp 8]) [_] Try.func11 rfl ⟨rfl, trivial⟩ ?_
                                exact ⟨congrArg Value.bool (decide_eq_true (by omega)), S40.le⟩
                              · skip
                                refine l_pass rfl ?_
                                refine l_pass rfl ?_
                                refine l_pass rfl ?_
                                refine l_pass rfl ?_
                                refine l_pass rfl ?_
                                refine l_pass rfl ?_
                                refine l_pass rfl ?_
                                refine l_x rfl (x_pick_f rfl rfl) ?_
                                refine l_x rfl (x_as rfl) ?_
                                refine l_nil ?_
                                refine r_ret (rs := [.tmp 8]) [_] Try.func11 rfl ⟨rfl, trivial⟩ ?_
                                exact ⟨congrArg Value.bool (by exfalso; omega), S40.le⟩
                            · skip
                              refine l_pass rfl ?_
                              refine l_pass rfl ?_
                              refine l_pass rfl ?_
                              refine l_pass rfl ?_
                              refine l_pass rfl ?_
                              refine l_x rfl (x_pick_f rfl rfl) ?_
                              refine l_x rfl (x_pick_f rfl rfl) ?_
                              refine l_x rfl (x_pick_t rfl rfl) ?_
                              refine l_x rfl (x_mv rfl) ?_
                              refine l_pass rfl ?_
                              refine l_pass rfl ?_
                              refine l_pass rfl ?_
                              refine l_pass rfl ?_
                              refine l_pass rfl ?_
                              refine l_pass rfl ?_
                              refine l_pass rfl ?_
                              refine l_x rfl (x_pick_f rfl rfl) ?_
                              refine l_x rfl (x_as rfl) ?_
                              refine l_nil ?_
                              refine r_ret (rs := [.tmp 8]) [_] Try.func11 rfl ⟨rfl, trivial⟩ ?_
                              exact ⟨congrArg Value.bool (by exfalso; omega), S40.le⟩
                          · skip
                            refine l_pass rfl ?_
                            refine l_pass rfl ?_
                            refine l_pass rfl ?_
                            refine l_x rfl (x_pick_f rfl rfl) ?_
                            refine l_x rfl (x_mv rfl) ?_
                            refine l_pass rfl ?_
                            refine l_pass rfl ?_
                            refine l_pass rfl ?_
                            refine l_pass rfl ?_
                            refine l_pass rfl ?_
                            refine l_x rfl (x_pick_f rfl rfl) ?_
                            refine l_x rfl (x_pick_f rfl rfl) ?_
                            refine l_x rfl (x_pick_t rfl rfl) ?_
                            refine l_x rfl (x_mv rfl) ?_
                            refine l_pass rfl ?_
                            refine l_pass rfl ?_
                            refine l_pass rfl ?_
                            refine l_pass rfl ?_
                            refine l_pass rfl ?_
                            refine l_pass rfl ?_
                            refine l_pass rfl ?_
                            refine l_x rfl (x_pick_f rfl rfl) ?_
                            refine l_x rfl (x_as rfl) ?_
                            refine l_nil ?_
                            refine r_ret (rs := [.tmp 8]) [_] Try.func11 rfl ⟨rfl, trivial⟩ ?_
                            exact ⟨congrArg Value.bool (by exfalso; omega), S40.le⟩
            · skip
              have S42 := S30.step hl7231
              have hRC := hR7231
              refine l_x rfl (x_mv rfl) ?_
              refine l_x rfl (x_extract rfl rfl) ?_
              refine l_x rfl (x_extract rfl rfl) ?_
              refine l_x rfl (x_as rfl) ?_
              refine l_x rfl (x_as rfl) ?_
              refine l_nil ?_
              refine r_seq ?_
              have S43 := S42.pick (L' := [_]) [0] (by decide) rfl
              refine r_forget [(1, vw), (4, .pointer (some ⟨b4, 0, none⟩)), (11, .int .i64 k4619), (13, .int .i64 k6429), (14, .int .i64 e6429), (15, .bool false), (16, .int .i64 e7231)] ⟨rfl, rfl, rfl, rfl, rfl, rfl, rfl, trivial⟩ ?_
              intro ρ44
              refine r_region ?_
              refine l_x rfl (x_load rfl (ld_blks (S43.blk 0 rfl) Try.isAgg24 Try.sizeOf24 rfl rfl)) ?_
              refine l_x rfl (x_mv rfl) ?_
              refine l_call [] [] [_, _] rfl rfl Try.call22 rfl (c_Greatest _ _ _ _ _ (by first | omega | (rw [unit_length]; omega) | (rw [List.length_map]; omega) | decide) _ (hA.le S43.le) (Hwl.le S43.le)) ?_
              rintro _ w45 ⟨n7845, vx7845, x7845, vp7845, p7845, e7845, rfl, hO7845, hR7845⟩
              have S46 := S43.join hO7845
              have hb7845 := hR7845.bd
              have hRG := hR7845
              refine l_x rfl (x_mv rfl) ?_
              refine l_x rfl (x_extract rfl rfl) ?_
              refine l_x rfl (x_extract rfl rfl) ?_
              refine l_x rfl (x_extract rfl rfl) ?_
              refine l_x rfl (x_extract rfl rfl) ?_
              refine l_x rfl (x_as rfl) ?_
              refine l_x rfl (x_as rfl) ?_
              refine l_x rfl (x_as rfl) ?_
              refine l_x rfl (x_as rfl) ?_
              refine l_nil ?_
              refine r_seq ?_
              refine r_region ?_
              refine l_x rfl (x_load rfl (ld_blks (S46.blk 0 rfl) Try.isAgg24 Try.sizeOf24 rfl rfl)) ?_
              refine l_x rfl (x_mv rfl) ?_
              refine l_call [] [] [_, _] rfl rfl Try.call42 rfl (c_Least _ _ _ _ _ (by first | omega | (rw [unit_length]; omega) | (rw [List.length_map]; omega) | decide) _ (hA.le S46.le) (Hwl.le S46.le)) ?_
              rintro _ w47 ⟨n8647, vx8647, x8647, vp8647, p8647, e8647, rfl, hO8647, hR8647⟩
              have S48 := S46.join hO8647
              have hRL := hR8647
              refine l_x rfl (x_mv rfl) ?_
              refine l_x rfl (x_extract rfl rfl) ?_
              refine l_x rfl (x_extract rfl rfl) ?_
              refine l_x rfl (x_extract rfl rfl) ?_
              refine l_x rfl (x_extract rfl rfl) ?_
              refine l_x rfl (x_as rfl) ?_
              refine l_x rfl (x_as rfl) ?_
              refine l_x rfl (x_as rfl) ?_
              refine l_x rfl (x_as rfl) ?_
              refine l_nil ?_
              refine r_seq ?_
              refine r_seq ?_
              have hP := provesF hRK hRS hRB hRC hRG hRL (by omega) rfl
              refine r_region ?_
              refine l_x rfl (x_mv rfl) ?_
              refine l_x rfl (x_neq rfl rfl) ?_
              refine l_x rfl (x_mv rfl) ?_
              refine l_splitd (d := 93) rfl (fun hg93 => ?_) (fun hg93 => ?_)
              · skip
                refine l_pass rfl ?_
                refine l_pass rfl ?_
                refine l_x rfl (x_pick_t rfl rfl) ?_
                refine l_x rfl (x_mv rfl) ?_
                refine l_pass rfl ?_
                refine l_pass rfl ?_
                refine l_pass rfl ?_
                refine l_x rfl (x_pick_t rfl rfl) ?_
                refine l_x rfl (x_mv rfl) ?_
                refine l_pass rfl ?_
                refine l_pass rfl ?_
                refine l_pass rfl ?_
                refine l_x rfl (x_pick_t rfl rfl) ?_
                refine l_x rfl (x_mv rfl) ?_
                refine l_pass rfl ?_
                refine l_pass rfl ?_
                refine l_pass rfl ?_
                refine l_x rfl (x_pick_t rfl rfl) ?_
                refine l_nil ?_
                refine r_true rfl ?_
                refine r_seq ?_
                refine r_region ?_
                refine l_x rfl (x_as rfl) ?_
                refine l_nil ?_
                refine r_ret (rs := [.tmp 8]) [_] Try.func11 rfl ⟨rfl, trivial⟩ ?_
                exact ⟨congrArg Value.bool (by exfalso; omega), S48.le⟩
              · skip
                refine l_x rfl (x_mv rfl) ?_
                refine l_x rfl (x_neq rfl rfl) ?_
                refine l_x rfl (x_pick_f rfl rfl) ?_
                refine l_x rfl (x_mv rfl) ?_
                refine l_splitd (d := 97) rfl (fun hg97 => ?_) (fun hg97 => ?_)
                · skip
                  refine l_pass rfl ?_
                  refine l_pass rfl ?_
                  refine l_pass rfl ?_
                  refine l_x rfl (x_pick_t rfl rfl) ?_
                  refine l_x rfl (x_mv rfl) ?_
                  refine l_pass rfl ?_
                  refine l_pass rfl ?_
                  refine l_pass rfl ?_
                  refine l_x rfl (x_pick_t rfl rfl) ?_
                  refine l_x rfl (x_mv rfl) ?_
                  refine l_pass rfl ?_
                  refine l_pass rfl ?_
                  refine l_pass rfl ?_
                  refine l_x rfl (x_pick_t rfl rfl) ?_
                  refine l_nil ?_
                  refine r_true rfl ?_
                  refine r_seq ?_
                  refine r_region ?_
                  refine l_x rfl (x_as rfl) ?_
                  refine l_nil ?_
                  refine r_ret (rs := [.tmp 8]) [_] Try.func11 rfl ⟨rfl, trivial⟩ ?_
                  exact ⟨congrArg Value.bool (by exfalso; omega), S48.le⟩
                · skip
                  refine l_x rfl (x_mv rfl) ?_
                  refine l_x rfl (x_mv rfl) ?_
                  refine l_x rfl (x_gtr rfl rfl) ?_
                  refine l_x rfl (x_pick_f rfl rfl) ?_
                  refine l_x rfl (x_mv rfl) ?_
                  refine l_splitd (d := 102) rfl (fun hg102 => ?_) (fun hg102 => ?_)
                  · skip
                    refine l_pass rfl ?_
                    refine l_pass rfl ?_
                    refine l_pass rfl ?_
                    refine l_x rfl (x_pick_t rfl rfl) ?_
                    refine l_x rfl (x_mv rfl) ?_
                    refine l_pass rfl ?_
                    refine l_pass rfl ?_
                    refine l_pass rfl ?_
                    refine l_x rfl (x_pick_t rfl rfl) ?_
                    refine l_nil ?_
                    refine r_true rfl ?_
                    refine r_seq ?_
                    refine r_region ?_
                    refine l_x rfl (x_as rfl) ?_
                    refine l_nil ?_
                    refine r_ret (rs := [.tmp 8]) [_] Try.func11 rfl ⟨rfl, trivial⟩ ?_
                    exact ⟨congrArg Value.bool (by exfalso; omega), S48.le⟩
                  · skip
                    refine l_x rfl (x_mv rfl) ?_
                    refine l_x rfl (x_mv rfl) ?_
                    refine l_x rfl (x_lss rfl rfl) ?_
                    refine l_x rfl (x_pick_f rfl rfl) ?_
                    refine l_x rfl (x_mv rfl) ?_
                    refine l_splitd (d := 107) rfl (fun hg107 => ?_) (fun hg107 => ?_)
                    · skip
                      refine l_pass rfl ?_
                      refine l_pass rfl ?_
                      refine l_pass rfl ?_
                      refine l_x rfl (x_pick_t rfl rfl) ?_
                      refine l_nil ?_
                      refine r_true rfl ?_
                      refine r_seq ?_
                      refine r_region ?_
                      refine l_x rfl (x_as rfl) ?_
                      refine l_nil ?_
                      refine r_ret (rs := [.tmp 8]) [_] Try.func11 rfl ⟨rfl, trivial⟩ ?_
                      exact ⟨congrArg Value.bool (by exfalso; omega), S48.le⟩
                    · skip
                      refine l_x rfl (x_mv rfl) ?_
                      refine l_x rfl (x_mv rfl) ?_
                      refine l_x rfl (x_neq rfl rfl) ?_
                      refine l_x rfl (x_pick_f rfl rfl) ?_
                      refine l_nil ?_
                      refine r_ifd rfl (fun hc111 => ?_) (fun hc111 => ?_)
                      · skip
                        refine r_seq ?_
                        refine r_region ?_
                        refine l_x rfl (x_as rfl) ?_
                        refine l_nil ?_
                        refine r_ret (rs := [.tmp 8]) [_] Try.func11 rfl ⟨rfl, trivial⟩ ?_
                        exact ⟨congrArg Value.bool (by exfalso; omega), S48.le⟩
                      · skip
                        refine r_skip ?_
                        refine r_seq ?_
                        refine r_region ?_
                        refine l_call [] [] [] rfl rfl Try.call19 rfl (c_flowing _) ?_
                        rintro _ w49 ⟨rfl, hl51⟩
                        have S50 := S48.step hl51
                        refine l_x rfl (x_mv rfl) ?_
                        refine l_x rfl (x_mv rfl) ?_
                        refine l_x rfl (x_neq rfl rfl) ?_
                        refine l_x rfl (x_mv rfl) ?_
                        refine l_splitd (d := 116) rfl (fun hg116 => ?_) (fun hg116 => ?_)
                        · skip
                          refine l_pass rfl ?_
                          refine l_pass rfl ?_
                          refine l_pass rfl ?_
                          refine l_pass rfl ?_
                          refine l_pass rfl ?_
                          refine l_pass rfl ?_
                          refine l_pass rfl ?_
                          refine l_pass rfl ?_
                          refine l_pass rfl ?_
                          refine l_pass rfl ?_
                          refine l_pass rfl ?_
                          refine l_pass rfl ?_
                          refine l_pass rfl ?_
                          refine l_pass rfl ?_
                          refine l_pass rfl ?_
                          refine l_x rfl (x_pick_t rfl rfl) ?_
                          refine l_x rfl (x_pick_t rfl rfl) ?_
                          refine l_x rfl (x_mv rfl) ?_
                          refine l_x rfl (x_mv rfl) ?_
                          refine l_x rfl (x_not rfl) ?_
                          refine l_x rfl (x_mv rfl) ?_
                          refine l_pass rfl ?_
                          refine l_pass rfl ?_
                          refine l_pass rfl ?_
                          refine l_x rfl (x_pick_t rfl rfl) ?_
                          refine l_x rfl (x_pick_t rfl rfl) ?_
                          refine l_x rfl (x_as rfl) ?_
                          refine l_nil ?_
                          refine r_ret (rs := [.tmp 8]) [_] Try.func11 rfl ⟨rfl, trivial⟩ ?_
                          exact ⟨rfl, S50.le⟩
                        · skip
                          refine l_x rfl (x_mv rfl) ?_
                          refine l_x rfl (x_mv rfl) ?_
                          refine l_x rfl (x_leq rfl rfl) ?_
                          refine l_x rfl (x_mv rfl) ?_
                          refine l_splitd (d := 120) rfl (fun hg120 => ?_) (fun hg120 => ?_)
                          · skip
                            refine l_x rfl (x_mv rfl) ?_
                            refine l_x rfl (x_mv rfl) ?_
                            refine l_x rfl (x_leq rfl rfl) ?_
                            refine l_x rfl (x_pick_t rfl rfl) ?_
                            refine l_x rfl (x_mv rfl) ?_
                            refine l_splitd (d := 125) rfl (fun hg125 => ?_) (fun hg125 => ?_)
                            · skip
                              refine l_x rfl (x_mv rfl) ?_
                              refine l_x rfl (x_mv rfl) ?_
                              refine l_x rfl (x_mv rfl) ?_
                              refine l_x rfl (x_eql rfl rfl) ?_
                              refine l_x rfl (x_beqF Try.runUnderlying4 rfl rfl) ?_
                              refine l_x rfl (x_pick_t rfl rfl) ?_
                              refine l_x rfl (x_pick_f rfl rfl) ?_
                              refine l_x rfl (x_pick_t rfl rfl) ?_
                              refine l_x rfl (x_mv rfl) ?_
                              refine l_splitd (d := 134) rfl (fun hg134 => ?_) (fun hg134 => ?_)
                              · skip
                                refine l_x rfl (x_mv rfl) ?_
                                refine l_x rfl (x_not rfl) ?_
                                refine l_x rfl (x_mv rfl) ?_
                                refine l_pass rfl ?_
                                refine l_pass rfl ?_
                                refine l_pass rfl ?_
                                refine l_x rfl (x_pick_t rfl rfl) ?_
                                refine l_x rfl (x_pick_t rfl rfl) ?_
                                refine l_x rfl (x_as rfl) ?_
                                refine l_nil ?_
                                refine r_ret (rs := [.tmp 8]) [_] Try.func11 rfl ⟨rfl, trivial⟩ ?_
                                exact ⟨rfl, S50.le⟩
                              · skip
                                refine l_pass rfl ?_
                                refine l_pass rfl ?_
                                refine l_pass rfl ?_
                                refine l_pass rfl ?_
                                refine l_pass rfl ?_
                                refine l_pass rfl ?_
                                refine l_pass rfl ?_
                                refine l_x rfl (x_pick_f rfl rfl) ?_
                                refine l_x rfl (x_as rfl) ?_
                                refine l_nil ?_
                                refine r_ret (rs := [.tmp 8]) [_] Try.func11 rfl ⟨rfl, trivial⟩ ?_
                                exact ⟨congrArg Value.bool (by exfalso; omega), S50.le⟩
                            · skip
                              refine l_pass rfl ?_
                              refine l_pass rfl ?_
                              refine l_pass rfl ?_
                              refine l_pass rfl ?_
                              refine l_pass rfl ?_
                              refine l_x rfl (x_pick_f rfl rfl) ?_
                              refine l_x rfl (x_pick_f rfl rfl) ?_
                              refine l_x rfl (x_pick_t rfl rfl) ?_
                              refine l_x rfl (x_mv rfl) ?_
                              refine l_pass rfl ?_
                              refine l_pass rfl ?_
                              refine l_pass rfl ?_
                              refine l_pass rfl ?_
                              refine l_pass rfl ?_
                              refine l_pass rfl ?_
                              refine l_pass rfl ?_
                              refine l_x rfl (x_pick_f rfl rfl) ?_
                              refine l_x rfl (x_as rfl) ?_
                              refine l_nil ?_
                              refine r_ret (rs := [.tmp 8]) [_] Try.func11 rfl ⟨rfl, trivial⟩ ?_
                              exact ⟨congrArg Value.bool (by exfalso; omega), S50.le⟩
                          · skip
                            refine l_pass rfl ?_
                            refine l_pass rfl ?_
                            refine l_pass rfl ?_
                            refine l_x rfl (x_pick_f rfl rfl) ?_
                            refine l_x rfl (x_mv rfl) ?_
                            refine l_pass rfl ?_
                            refine l_pass rfl ?_
                            refine l_pass rfl ?_
                            refine l_pass rfl ?_
                            refine l_pass rfl ?_
                            refine l_x rfl (x_pick_f rfl rfl) ?_
                            refine l_x rfl (x_pick_f rfl rfl) ?_
                            refine l_x rfl (x_pick_t rfl rfl) ?_
                            refine l_x rfl (x_mv rfl) ?_
                            refine l_pass rfl ?_
                            refine l_pass rfl ?_
                            refine l_pass rfl ?_
                            refine l_pass rfl ?_
                            refine l_pass rfl ?_
                            refine l_pass rfl ?_
                            refine l_pass rfl ?_
                            refine l_x rfl (x_pick_f rfl rfl) ?_
                            refine l_x rfl (x_as rfl) ?_
                            refine l_nil ?_
                            refine r_ret (rs := [.tmp 8]) [_] Try.func11 rfl ⟨rfl, trivial⟩ ?_
                            exact ⟨congrArg Value.bool (by exfalso; omega), S50.le⟩
      · skip
        have S52 := S12.step hl3917
        have hRK := hR3917
        refine l_x rfl (x_mv rfl) ?_
        refine l_x rfl (x_extract rfl rfl) ?_
        refine l_x rfl (x_extract rfl rfl) ?_
        refine l_x rfl (x_as rfl) ?_
        refine l_x rfl (x_as rfl) ?_
        refine l_nil ?_
        refine r_seq ?_
        refine r_region ?_
        refine l_x rfl (x_load rfl (ld_blks (S52.blk 0 rfl) Try.isAgg24 Try.sizeOf24 rfl rfl)) ?_
        refine l_x rfl (x_mv rfl) ?_
        refine l_x rfl (x_mv rfl) ?_
        refine l_call [] [] [_, _, _] rfl rfl Try.call32 rfl (c_SumR _ _ _ _ _ _ _ (by first | omega | (rw [unit_length]; omega) | (rw [List.length_map]; omega) | decide) (by first | omega | (rw [unit_length]; omega) | (rw [List.length_map]; omega) | decide) _ (hA.le S52.le) (Hwl.le S52.le) (Hx.le S52.le)) ?_
        rintro _ w53 ⟨k4653, e4653, rfl, hl4653, hR4653⟩
        have S54 := S52.step hl4653
        have hRS := hR4653
        refine l_x rfl (x_mv rfl) ?_
        refine l_x rfl (x_extract rfl rfl) ?_
        refine l_x rfl (x_extract rfl rfl) ?_
        refine l_x rfl (x_as rfl) ?_
        refine l_x rfl (x_as rfl) ?_
        refine l_nil ?_
        refine r_seq ?_
        refine r_seq ?_
        refine r_region ?_
        refine l_x rfl (x_mv rfl) ?_
        refine l_x rfl (x_neq rfl rfl) ?_
        refine l_x rfl (x_mv rfl) ?_
        refine l_splitd (d := 51) rfl (fun hg51 => ?_) (fun hg51 => ?_)
        · skip
          refine l_pass rfl ?_
          refine l_pass rfl ?_
          refine l_x rfl (x_pick_t rfl rfl) ?_
          refine l_x rfl (x_mv rfl) ?_
          refine l_pass rfl ?_
          refine l_pass rfl ?_
          refine l_x rfl (x_pick_t rfl rfl) ?_
          refine l_nil ?_
          refine r_true rfl ?_
          refine r_seq ?_
          refine r_region ?_
          refine l_call [] [] [] rfl rfl Try.call19 rfl (c_flowing _) ?_
          rintro _ w55 ⟨rfl, hl57⟩
          have S56 := S54.step hl57
          refine l_x rfl (x_as rfl) ?_
          refine l_nil ?_
          refine r_ret (rs := [.tmp 8]) [_] Try.func11 rfl ⟨rfl, trivial⟩ ?_
          exact ⟨rfl, S56.le⟩
        · skip
          refine l_x rfl (x_mv rfl) ?_
          refine l_x rfl (x_neq rfl rfl) ?_
          refine l_x rfl (x_pick_f rfl rfl) ?_
          refine l_x rfl (x_mv rfl) ?_
          refine l_splitd (d := 55) rfl (fun hg55 => ?_) (fun hg55 => ?_)
          · skip
            refine l_pass rfl ?_
            refine l_pass rfl ?_
            refine l_x rfl (x_pick_t rfl rfl) ?_
            refine l_nil ?_
            refine r_true rfl ?_
            refine r_seq ?_
            refine r_region ?_
            refine l_call [] [] [] rfl rfl Try.call19 rfl (c_flowing _) ?_
            rintro _ w58 ⟨rfl, hl60⟩
            have S59 := S54.step hl60
            refine l_x rfl (x_as rfl) ?_
            refine l_nil ?_
            refine r_ret (rs := [.tmp 8]) [_] Try.func11 rfl ⟨rfl, trivial⟩ ?_
            exact ⟨rfl, S59.le⟩
          · skip
            refine l_x rfl (x_mv rfl) ?_
            refine l_x rfl (x_not rfl) ?_
            refine l_x rfl (x_pick_f rfl rfl) ?_
            refine l_nil ?_
            refine r_true rfl ?_
            refine r_seq ?_
            refine r_region ?_
            refine l_call [] [] [] rfl rfl Try.call19 rfl (c_flowing _) ?_
            rintro _ w61 ⟨rfl, hl63⟩
            have S62 := S54.step hl63
            refine l_x rfl (x_as rfl) ?_
            refine l_nil ?_
            refine r_ret (rs := [.tmp 8]) [_] Try.func11 rfl ⟨rfl, trivial⟩ ?_
            exact ⟨rfl, S62.le⟩

end Go.Proofs

/-
  The statement of FlowProves: for every input the law returns true, and its arguments read as they did. No condition.
-/
namespace Go.Proofs
open Go Go.Vk Go.Vk.Flow

open Go.ChangeShapes Go.WideShapes Go.RowKit Go.Joins
namespace Ytddapgjjndbejaa
set_option maxRecDepth 100000 in
theorem liftedProves (os : Os) (started : os.Started) (H : Type) (enc : TypeId × Value → H) :
    ReturnsInHanded {} Try.checked os 11 .any (Rows.flowProvesSpec.pre6 enc Try.prog Try.f11 Rows.flowProvesRow.domain false) (Rows.flowProvesSpec.post enc Try.prog Try.f11 false true false false) := by
  refine returnsInHanded_of_change (C := Try.checked) ownT started (by kernel_rfl) Try.func11
    (ChangeSpec.witness6 (enc := enc) (C := Try.checked) false ⟨#[], #[.agg #[.int .i64 0, .slice none 0 0], .slice none 0 0, .slice none 0 0, .slice none 0 0], []⟩ 8 (by kernel_rfl) (by kernel_rfl) (by kernel_rfl) (by kernel_rfl)) ?_
  intro W base args ds gs before hval0 hW hcnd _
  have hval : ∀ (j : Nat) t v, Try.f11.params[j]? = some t → args[j]? = some v → Value.okWide Try.prog W .any base t v := hval0
  have hW' := hW
  obtain ⟨p, q, hA0, hV, rfl, hfz, hnd⟩ := hW
  have hA : DataW.TrodAll enc Try.prog W 0 (fun _ => true) true Try.f11.params.toList args.toList ds p := hA0
  rw [Try.params11] at hA hval
  obtain ⟨v0, vs0, d0, ds0, p0, q0, hargs, rfl, rfl, h0, r0⟩ := trodAll_cons hA
  obtain ⟨v1, vs1, d1, ds1, p1, q1, rfl, rfl, rfl, h1, r1⟩ := trodAll_cons r0
  obtain ⟨v2, vs2, d2, ds2, p2, q2, rfl, rfl, rfl, h2, r2⟩ := trodAll_cons r1
  obtain ⟨v3, vs3, d3, ds3, p3, q3, rfl, rfl, rfl, h3, r3⟩ := trodAll_cons r2
  obtain ⟨rfl, rfl, rfl⟩ := trodAll_nil r3
  obtain rfl : args = #[v0, v1, v2, v3] := by cases args; simp_all
  obtain ⟨rfl, rfl⟩ := trodVars_none hV
  obtain ⟨N0, va0, arcs0, rfl, hQ0, hm0⟩ := openNet (hval 0 24 v0 rfl rfl) h0
  obtain ⟨l1, hQ1, hm1⟩ := openInts (hval 1 25 v1 rfl rfl) h1
  obtain ⟨l2, hQ2, hm2⟩ := openInts (hval 2 25 v2 rfl rfl) h2
  obtain ⟨l3, hQ3, hm3⟩ := openInts (hval 3 25 v3 rfl rfl) h3
  clear hA0 hval0
  exact (lawProves N0 va0 arcs0 _ l1 _ l2 _ l3 W hQ0 hQ1 hQ2 hQ3).mono fun v W' ⟨hv, hle⟩ => by
    subst hv
    exact post_law hW' laidT (by rw [Try.params11]; exact fun t ht => by revert t; decide +kernel) (by kernel_rfl) Try.underlying4 rfl rfl rfl rfl hle
/-- FlowProves: whatever the input, the law returns true, and its arguments read as they did. -/
theorem flowProves : Rows.FlowProvesSaid :=
  OpenClaim.holds_of_wide 11 Try.f11 rfl rfl rfl rfl rfl rfl rfl ⟨rfl, rfl, rfl, rfl, rfl⟩ rfl rfl rfl rfl rfl (by kernel_rfl) Try.func11 (by kernel_rfl)
    (of_decide_eq_true (by kernel_rfl)) (by unfold Func.isWrapper; rw [if_neg (of_decide_eq_false (by kernel_rfl))]; exact ⟨rfl, rfl⟩)
    (fun os started H enc _ => liftedProves os started H enc)
#print axioms flowProves
end Ytddapgjjndbejaa

end Go.Proofs
