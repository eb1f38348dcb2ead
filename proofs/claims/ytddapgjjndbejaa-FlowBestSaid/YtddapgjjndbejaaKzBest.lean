/-
  The statement of FlowBest: for every input the law returns true, and its arguments read as they did. No condition.
-/
import Derived.Test.YtddapgjjndbejaaKg
/-
  Contracts of functions of the program: each by symbolic execution of its text.
-/
namespace Go.Proofs
open Go Go.Vk Go.Vk.Flow

set_option maxHeartbeats 4000000 in
/-- couchant/couchantlaw06.FlowBest. -/
theorem lawBest (N : Int) (va : Value) (arcs : List Arc) (vw : Value) (wl : List Int) (w : World) (hA : Rd EA w va arcs) (Hwl : Rd EI w vw wl) :
    Cl Try.prog 10 #[.agg #[.int .i64 N, va], vw] w fun v w' => v = .bool true ∧ Le w w' := by
  refine fn_of_run (args := [_, _]) 192 Try.func10 rfl rfl rfl fun cs => ?_
  have S := Own.start (X := nob) w
  refine r_seq ?_
  refine r_region ?_
  refine l_box S rfl rfl ?_
  intro b4 w1 S2 hl3
  refine l_x rfl (x_as rfl) ?_
  refine l_nil ?_
  refine r_seq ?_
  refine r_seq ?_
  refine r_region ?_
  refine l_x rfl (x_load rfl (ld_blks (S2.blk 0 rfl) Try.isAgg24 Try.sizeOf24 rfl rfl)) ?_
  refine l_call [] [] [_] rfl rfl Try.call18 rfl (c_small _ _ _ _ (hA.le S2.le)) ?_
  rintro _ w5 ⟨rfl, hl7⟩
  have S6 := S2.step hl7
  refine l_x rfl (x_not rfl) ?_
  refine l_x rfl (x_mv rfl) ?_
  refine l_split (d := 27) rfl (fun hg27 => ?_) (fun hg27 => ?_)
  · skip
    refine l_pass rfl ?_
    refine l_pass rfl ?_
    refine l_pass rfl ?_
    refine l_x rfl (x_pick_t rfl rfl) ?_
    refine l_nil ?_
    refine r_true rfl ?_
    refine r_seq ?_
    refine r_region ?_
    refine l_call [] [] [] rfl rfl Try.call19 rfl (c_flowing _) ?_
    rintro _ w8 ⟨rfl, hl10⟩
    have S9 := S6.step hl10
    refine l_x rfl (x_as rfl) ?_
    refine l_nil ?_
    refine r_ret (rs := [.tmp 4]) [_] Try.func10 rfl ⟨rfl, trivial⟩ ?_
    exact ⟨rfl, S9.le⟩
  · skip
    refine l_x rfl (x_mv rfl) ?_
    refine l_x rfl (x_len (Hwl.le S6.le) rfl Try.runUnderlying25) ?_
    refine l_x rfl (x_gtr rfl rfl) ?_
    refine l_x rfl (x_pick_f rfl rfl) ?_
    refine l_nil ?_
    refine r_ifd rfl (fun hc31 => ?_) (fun hc31 => ?_)
    · skip
      refine r_seq ?_
      refine r_region ?_
      refine l_call [] [] [] rfl rfl Try.call19 rfl (c_flowing _) ?_
      rintro _ w11 ⟨rfl, hl13⟩
      have S12 := S6.step hl13
      refine l_x rfl (x_as rfl) ?_
      refine l_nil ?_
      refine r_ret (rs := [.tmp 4]) [_] Try.func10 rfl ⟨rfl, trivial⟩ ?_
      exact ⟨rfl, S12.le⟩
    · skip
      refine r_skip ?_
      refine r_seq ?_
      have hLs := smallB_le (N := N) (n := arcs.length) (by simpa using hg27)
      refine r_region ?_
      refine l_x rfl (x_load rfl (ld_blks (S6.blk 0 rfl) Try.isAgg24 Try.sizeOf24 rfl rfl)) ?_
      refine l_x rfl (x_mv rfl) ?_
      refine l_call [] [] [_, _] rfl rfl Try.call22 rfl (c_Greatest _ _ _ _ _ (by first | omega | (rw [unit_length]; omega) | (rw [List.length_map]; omega) | decide) _ (hA.le S6.le) (Hwl.le S6.le)) ?_
      rintro _ w14 ⟨n3614, vx3614, x3614, vp3614, p3614, e3614, rfl, hO3614, hR3614⟩
      have S15 := S6.join hO3614
      have hRG := hR3614
      have hln := hR3614.len
      refine l_x rfl (x_mv rfl) ?_
      refine l_x rfl (x_extract rfl rfl) ?_
      refine l_x rfl (x_extract rfl rfl) ?_
      refine l_x rfl (x_extract rfl rfl) ?_
      refine l_x rfl (x_extract rfl rfl) ?_
      refine l_x rfl (x_as rfl) ?_
      refine l_x rfl (x_as rfl) ?_
      refine l_x rfl (x_as rfl) ?_
      refine l_x rfl (x_as rfl) ?_
      refine l_nil ?_
      refine r_seq ?_
      refine r_region ?_
      refine l_x rfl (x_load rfl (ld_blks (S15.blk 0 rfl) Try.isAgg24 Try.sizeOf24 rfl rfl)) ?_
      refine l_x rfl (x_mv rfl) ?_
      refine l_call [] [] [_, _] rfl rfl Try.call42 rfl (c_Least _ _ _ _ _ (by first | omega | (rw [unit_length]; omega) | (rw [List.length_map]; omega) | decide) _ (hA.le S15.le) (Hwl.le S15.le)) ?_
      rintro _ w16 ⟨n4416, vx4416, x4416, vp4416, p4416, e4416, rfl, hO4416, hR4416⟩
      have S17 := S15.join hO4416
      have hRL := hR4416
      have hef := bestE hRG hRL
      have hln2 := hR4416.len
      refine l_x rfl (x_mv rfl) ?_
      refine l_x rfl (x_extract rfl rfl) ?_
      refine l_x rfl (x_extract rfl rfl) ?_
      refine l_x rfl (x_extract rfl rfl) ?_
      refine l_x rfl (x_extract rfl rfl) ?_
      refine l_x rfl (x_as rfl) ?_
      refine l_x rfl (x_as rfl) ?_
      refine l_x rfl (x_as rfl) ?_
      refine l_x rfl (x_as rfl) ?_
      refine l_nil ?_
      refine r_seq ?_
      refine r_seq ?_
      refine r_region ?_
      refine l_x rfl (x_mv rfl) ?_
      refine l_x rfl (x_mv rfl) ?_
      refine l_x rfl (x_neq rfl rfl) ?_
      refine l_nil ?_
      refine r_ifd rfl (fun hc51 => ?_) (fun hc51 => ?_)
      · exact absurd hef hc51
      · skip
        refine r_skip ?_
        refine r_seq ?_
        refine r_seq ?_
        refine r_region ?_
        refine l_x rfl (x_mv rfl) ?_
        refine l_x rfl (x_neq rfl rfl) ?_
        refine l_nil ?_
        refine r_ifd rfl (fun hc53 => ?_) (fun hc53 => ?_)
        · skip
          refine r_seq ?_
          refine r_region ?_
          refine l_x rfl (x_load rfl (ld_blks (S17.blk 0 rfl) Try.isAgg24 Try.sizeOf24 rfl rfl)) ?_
          refine l_call [] [] [_] rfl rfl Try.call43 rfl (c_Some _ _ _ _ (hA.le S17.le)) ?_
          rintro _ w18 ⟨vx5618, x5618, e5618, rfl, hN5618, hl5618, hR5618⟩
          have S19 := S17.add hl5618 hN5618
          obtain ⟨hz, hD⟩ := bestNo hRG hRL hR5618 hc53
          refine l_x rfl (x_mv rfl) ?_
          refine l_x rfl (x_extract rfl rfl) ?_
          refine l_x rfl (x_extract rfl rfl) ?_
          refine l_x rfl (x_as rfl) ?_
          refine l_x rfl (x_as rfl) ?_
          refine l_nil ?_
          refine r_seq ?_
          rcases hD with ⟨hd1, hd2⟩ | ⟨hd1, hd2, hd3⟩ | ⟨hd1, hd2, hd4, hd3⟩
          · skip
            refine r_region ?_
            refine l_x rfl (x_load rfl (ld_blks (S19.blk 0 rfl) Try.isAgg24 Try.sizeOf24 rfl rfl)) ?_
            refine l_call [] [] [_] rfl rfl Try.call37 rfl (c_rCheck _ _ _ _ (hA.le S19.le)) ?_
            rintro _ w20 ⟨rfl, hl22⟩
            have S21 := S19.step hl22
            refine l_x rfl (x_neq rfl rfl) ?_
            refine l_x rfl (x_mv rfl) ?_
            refine l_splitd (d := 62) rfl (fun hg62 => ?_) (fun hg62 => ?_)
            · skip
              refine l_x rfl (x_mv rfl) ?_
              refine l_x rfl (x_load rfl (ld_blks (S21.blk 0 rfl) Try.isAgg24 Try.sizeOf24 rfl rfl)) ?_
              refine l_call [] [] [_] rfl rfl Try.call37 rfl (c_rCheck _ _ _ _ (hA.le S21.le)) ?_
              rintro _ w23 ⟨rfl, hl25⟩
              have S24 := S21.step hl25
              refine l_x rfl (x_eql rfl rfl) ?_
              refine l_x rfl (x_pick_t rfl rfl) ?_
              refine l_x rfl (x_mv rfl) ?_
              refine l_splitd (d := 68) rfl (fun hg68 => ?_) (fun hg68 => ?_)
              · skip
                refine l_pass rfl ?_
                refine l_pass rfl ?_
                refine l_pass rfl ?_
                refine l_pass rfl ?_
                refine l_pass rfl ?_
                refine l_pass rfl ?_
                refine l_pass rfl ?_
                refine l_pass rfl ?_
                refine l_pass rfl ?_
                refine l_pass rfl ?_
                refine l_pass rfl ?_
                refine l_pass rfl ?_
                refine l_pass rfl ?_
                refine l_x rfl (x_pick_t rfl rfl) ?_
                refine l_x rfl (x_mv rfl) ?_
                refine l_pass rfl ?_
                refine l_pass rfl ?_
                refine l_pass rfl ?_
                refine l_pass rfl ?_
                refine l_pass rfl ?_
                refine l_pass rfl ?_
                refine l_pass rfl ?_
                refine l_pass rfl ?_
                refine l_pass rfl ?_
                refine l_pass rfl ?_
                refine l_pass rfl ?_
                refine l_x rfl (x_pick_t rfl rfl) ?_
                refine l_x rfl (x_as rfl) ?_
                refine l_nil ?_
                refine r_seq ?_
                refine r_region ?_
                refine l_call [] [] [] rfl rfl Try.call19 rfl (c_flowing _) ?_
                rintro _ w26 ⟨rfl, hl28⟩
                have S27 := S24.step hl28
                refine l_x rfl (x_mv rfl) ?_
                refine l_x rfl (x_mv rfl) ?_
                refine l_x rfl (x_pick_t rfl rfl) ?_
                refine l_x rfl (x_mv rfl) ?_
                refine l_x rfl (x_mv rfl) ?_
                refine l_x rfl (x_eql rfl rfl) ?_
                refine l_x rfl (x_pick_t rfl rfl) ?_
                refine l_x rfl (x_mv rfl) ?_
                refine l_splitd (d := 104) rfl (fun hg104 => ?_) (fun hg104 => ?_)
                · skip
                  refine l_x rfl (x_mv rfl) ?_
                  refine l_x rfl (x_eql rfl rfl) ?_
                  refine l_x rfl (x_pick_t rfl rfl) ?_
                  refine l_x rfl (x_mv rfl) ?_
                  refine l_splitd (d := 108) rfl (fun hg108 => ?_) (fun hg108 => ?_)
                  · skip
                    refine l_x rfl (x_mv rfl) ?_
                    refine l_x rfl (x_len (vec_rd (S27.at 1 rfl)) rfl Try.runUnderlying25) ?_
                    refine l_x rfl (x_eql rfl rfl) ?_
                    refine l_x rfl (x_pick_t rfl rfl) ?_
                    refine l_x rfl (x_mv rfl) ?_
                    refine l_splitd (d := 113) rfl (fun hg113 => ?_) (fun hg113 => ?_)
                    · skip
                      refine l_x rfl (x_mv rfl) ?_
                      refine l_x rfl (x_len (vec_rd (S27.at 3 rfl)) rfl Try.runUnderlying25) ?_
                      refine l_x rfl (x_eql rfl rfl) ?_
                      refine l_x rfl (x_pick_t rfl rfl) ?_
                      refine l_x rfl (x_mv rfl) ?_
                      refine l_splitd (d := 118) rfl (fun hg118 => ?_) (fun hg118 => ?_)
                      · skip
                        refine l_x rfl (x_mv rfl) ?_
                        refine l_x rfl (x_len (vec_rd (S27.at 2 rfl)) rfl Try.runUnderlying25) ?_
                        refine l_x rfl (x_eql rfl rfl) ?_
                        refine l_x rfl (x_pick_t rfl rfl) ?_
                        refine l_x rfl (x_mv rfl) ?_
                        refine l_splitd (d := 123) rfl (fun hg123 => ?_) (fun hg123 => ?_)
                        · skip
                          refine l_x rfl (x_mv rfl) ?_
                          refine l_x rfl (x_len (vec_rd (S27.at 4 rfl)) rfl Try.runUnderlying25) ?_
                          refine l_x rfl (x_eql rfl rfl) ?_
                          refine l_x rfl (x_pick_t rfl rfl) ?_
                          refine l_x rfl (x_as rfl) ?_
                          refine l_nil ?_
                          refine r_ret (rs := [.tmp 4]) [_] Try.func10 rfl ⟨rfl, trivial⟩ ?_
                          exact ⟨congrArg Value.bool (decide_eq_true (by omega)), S27.le⟩
                        · skip
                          refine l_pass rfl ?_
                          refine l_pass rfl ?_
                          refine l_pass rfl ?_
                          refine l_x rfl (x_pick_f rfl rfl) ?_
                          refine l_x rfl (x_as rfl) ?_
                          refine l_nil ?_
                          refine r_ret (rs := [.tmp 4]) [_] Try.func10 rfl ⟨rfl, trivial⟩ ?_
                          exact ⟨congrArg Value.bool (by exfalso; omega), S27.le⟩
                      · skip
                        refine l_pass rfl ?_
                        refine l_pass rfl ?_
                        refine l_pass rfl ?_
                        refine l_x rfl (x_pick_f rfl rfl) ?_
                        refine l_x rfl (x_mv rfl) ?_
                        refine l_pass rfl ?_
                        refine l_pass rfl ?_
                        refine l_pass rfl ?_
                        refine l_x rfl (x_pick_f rfl rfl) ?_
                        refine l_x rfl (x_as rfl) ?_
                        refine l_nil ?_
                        refine r_ret (rs := [.tmp 4]) [_] Try.func10 rfl ⟨rfl, trivial⟩ ?_
                        exact ⟨congrArg Value.bool (by exfalso; omega), S27.le⟩
                    · skip
                      refine l_pass rfl ?_
                      refine l_pass rfl ?_
                      refine l_pass rfl ?_
                      refine l_x rfl (x_pick_f rfl rfl) ?_
                      refine l_x rfl (x_mv rfl) ?_
                      refine l_pass rfl ?_
                      refine l_pass rfl ?_
                      refine l_pass rfl ?_
                      refine l_x rfl (x_pick_f rfl rfl) ?_
                      refine l_x rfl (x_mv rfl) ?_
                      refine l_pass rfl ?_
                      refine l_pass rfl ?_
                      refine l_pass rfl ?_
                      refine l_x rfl (x_pick_f rfl rfl) ?_
                      refine l_x rfl (x_as rfl) ?_
                      refine l_nil ?_
                      refine r_ret (rs := [.tmp 4]) [_] Try.func10 rfl ⟨rfl, trivial⟩ ?_
                      exact ⟨congrArg Value.bool (by exfalso; omega), S27.le⟩
                  · skip
                    refine l_pass rfl ?_
                    refine l_pass rfl ?_
                    refine l_pass rfl ?_
                    refine l_x rfl (x_pick_f rfl rfl) ?_
                    refine l_x rfl (x_mv rfl) ?_
                    refine l_pass rfl ?_
                    refine l_pass rfl ?_
                    refine l_pass rfl ?_
                    refine l_x rfl (x_pick_f rfl rfl) ?_
                    refine l_x rfl (x_mv rfl) ?_
                    refine l_pass rfl ?_
                    refine l_pass rfl ?_
                    refine l_pass rfl ?_
                    refine l_x rfl (x_pick_f rfl rfl) ?_
                    refine l_x rfl (x_mv rfl) ?_
                    refine l_pass rfl ?_
                    refine l_pass rfl ?_
                    refine l_pass rfl ?_
                    refine l_x rfl (x_pick_f rfl rfl) ?_
                    refine l_x rfl (x_as rfl) ?_
                    refine l_nil ?_
                    refine r_ret (rs := [.tmp 4]) [_] Try.func10 rfl ⟨rfl, trivial⟩ ?_
                    exact ⟨congrArg Value.bool (by exfalso; omega), S27.le⟩
                · skip
                  refine l_pass rfl ?_
                  refine l_pass rfl ?_
                  refine l_x rfl (x_pick_f rfl rfl) ?_
                  refine l_x rfl (x_mv rfl) ?_
                  refine l_pass rfl ?_
                  refine l_pass rfl ?_
                  refine l_pass rfl ?_
                  refine l_x rfl (x_pick_f rfl rfl) ?_
                  refine l_x rfl (x_mv rfl) ?_
                  refine l_pass rfl ?_
                  refine l_pass rfl ?_
                  refine l_pass rfl ?_
                  refine l_x rfl (x_pick_f rfl rfl) ?_
                  refine l_x rfl (x_mv rfl) ?_
                  refine l_pass rfl ?_
                  refine l_pass rfl ?_
                  refine l_pass rfl ?_
                  refine l_x rfl (x_pick_f rfl rfl) ?_
                  refine l_x rfl (x_mv rfl) ?_
                  refine l_pass rfl ?_
                  refine l_pass rfl ?_
                  refine l_pass rfl ?_
                  refine l_x rfl (x_pick_f rfl rfl) ?_
                  refine l_x rfl (x_as rfl) ?_
                  refine l_nil ?_
                  refine r_ret (rs := [.tmp 4]) [_] Try.func10 rfl ⟨rfl, trivial⟩ ?_
                  exact ⟨congrArg Value.bool (by exfalso; omega), S27.le⟩
              · exact absurd hd2 hg68
            · exact absurd hd1 hg62
          · skip
            refine r_region ?_
            refine l_x rfl (x_load rfl (ld_blks (S19.blk 0 rfl) Try.isAgg24 Try.sizeOf24 rfl rfl)) ?_
            refine l_call [] [] [_] rfl rfl Try.call37 rfl (c_rCheck _ _ _ _ (hA.le S19.le)) ?_
            rintro _ w29 ⟨rfl, hl31⟩
            have S30 := S19.step hl31
            refine l_x rfl (x_neq rfl rfl) ?_
            refine l_x rfl (x_mv rfl) ?_
            refine l_splitd (d := 62) rfl (fun hg62 => ?_) (fun hg62 => ?_)
            · exact absurd hd1 hg62
            · skip
              refine l_pass rfl ?_
              refine l_pass rfl ?_
              refine l_pass rfl ?_
              refine l_pass rfl ?_
              refine l_x rfl (x_pick_f rfl rfl) ?_
              refine l_x rfl (x_mv rfl) ?_
              refine l_x rfl (x_load rfl (ld_blks (S30.blk 0 rfl) Try.isAgg24 Try.sizeOf24 rfl rfl)) ?_
              refine l_call [] [] [_] rfl rfl Try.call37 rfl (c_rCheck _ _ _ _ (hA.le S30.le)) ?_
              rintro _ w32 ⟨rfl, hl34⟩
              have S33 := S30.step hl34
              refine l_x rfl (x_eql rfl rfl) ?_
              refine l_x rfl (x_mv rfl) ?_
              refine l_splitd (d := 72) rfl (fun hg72 => ?_) (fun hg72 => ?_)
              · skip
                refine l_x rfl (x_load rfl (ld_blks (S33.blk 0 rfl) Try.isAgg24 Try.sizeOf24 rfl rfl)) ?_
                refine l_x rfl (x_mv rfl) ?_
                refine l_call [] [] [_, _] rfl rfl Try.call47 rfl (c_rWeightsK _ _ _ _ _ _ (by first | omega | (rw [unit_length]; omega) | (rw [List.length_map]; omega) | decide) hd3 _ (hA.le S33.le) (Hwl.le S33.le)) ?_
                rintro _ w35 ⟨rfl, hl37⟩
                have S36 := S33.step hl37
                refine l_x rfl (x_not rfl) ?_
                refine l_x rfl (x_pick_t rfl rfl) ?_
                refine l_x rfl (x_mv rfl) ?_
                refine l_x rfl (x_mv rfl) ?_
                refine l_x rfl (x_eql rfl rfl) ?_
                refine l_x rfl (x_pick_t rfl rfl) ?_
                refine l_x rfl (x_pick_f rfl rfl) ?_
                refine l_x rfl (x_mv rfl) ?_
                refine l_splitd (d := 83) rfl (fun hg83 => ?_) (fun hg83 => ?_)
                · skip
                  refine l_pass rfl ?_
                  refine l_pass rfl ?_
                  refine l_pass rfl ?_
                  refine l_pass rfl ?_
                  refine l_pass rfl ?_
                  refine l_pass rfl ?_
                  refine l_pass rfl ?_
                  refine l_pass rfl ?_
                  refine l_pass rfl ?_
                  refine l_pass rfl ?_
                  refine l_pass rfl ?_
                  refine l_x rfl (x_pick_t rfl rfl) ?_
                  refine l_x rfl (x_as rfl) ?_
                  refine l_nil ?_
                  refine r_seq ?_
                  refine r_region ?_
                  refine l_call [] [] [] rfl rfl Try.call19 rfl (c_flowing _) ?_
                  rintro _ w38 ⟨rfl, hl40⟩
                  have S39 := S36.step hl40
                  refine l_x rfl (x_mv rfl) ?_
                  refine l_x rfl (x_mv rfl) ?_
                  refine l_x rfl (x_pick_t rfl rfl) ?_
                  refine l_x rfl (x_mv rfl) ?_
                  refine l_x rfl (x_mv rfl) ?_
                  refine l_x rfl (x_eql rfl rfl) ?_
                  refine l_x rfl (x_pick_t rfl rfl) ?_
                  refine l_x rfl (x_mv rfl) ?_
                  refine l_splitd (d := 104) rfl (fun hg104 => ?_) (fun hg104 => ?_)
                  · skip
                    refine l_x rfl (x_mv rfl) ?_
                    refine l_x rfl (x_eql rfl rfl) ?_
                    refine l_x rfl (x_pick_t rfl rfl) ?_
                    refine l_x rfl (x_mv rfl) ?_
                    refine l_splitd (d := 108) rfl (fun hg108 => ?_) (fun hg108 => ?_)
                    · skip
                      refine l_x rfl (x_mv rfl) ?_
                      refine l_x rfl (x_len (vec_rd (S39.at 1 rfl)) rfl Try.runUnderlying25) ?_
                      refine l_x rfl (x_eql rfl rfl) ?_
                      refine l_x rfl (x_pick_t rfl rfl) ?_
                      refine l_x rfl (x_mv rfl) ?_
                      refine l_splitd (d := 113) rfl (fun hg113 => ?_) (fun hg113 => ?_)
                      · skip
                        refine l_x rfl (x_mv rfl) ?_
                        refine l_x rfl (x_len (vec_rd (S39.at 3 rfl)) rfl Try.runUnderlying25) ?_
                        refine l_x rfl (x_eql rfl rfl) ?_
                        refine l_x rfl (x_pick_t rfl rfl) ?_
                        refine l_x rfl (x_mv rfl) ?_
                        refine l_splitd (d := 118) rfl (fun hg118 => ?_) (fun hg118 => ?_)
                        · skip
                          refine l_x rfl (x_mv rfl) ?_
                          refine l_x rfl (x_len (vec_rd (S39.at 2 rfl)) rfl Try.runUnderlying25) ?_
                          refine l_x rfl (x_eql rfl rfl) ?_
                          refine l_x rfl (x_pick_t rfl rfl) ?_
                          refine l_x rfl (x_mv rfl) ?_
                          refine l_splitd (d := 123) rfl (fun hg123 => ?_) (fun hg123 => ?_)
                          · skip
                            refine l_x rfl (x_mv rfl) ?_
                            refine l_x rfl (x_len (vec_rd (S39.at 4 rfl)) rfl Try.runUnderlying25) ?_
                            refine l_x rfl (x_eql rfl rfl) ?_
                            refine l_x rfl (x_pick_t rfl rfl) ?_
                            refine l_x rfl (x_as rfl) ?_
                            refine l_nil ?_
                            refine r_ret (rs := [.tmp 4]) [_] Try.func10 rfl ⟨rfl, trivial⟩ ?_
                            exact ⟨congrArg Value.bool (decide_eq_true (by omega)), S39.le⟩
                          · skip
                            refine l_pass rfl ?_
                            refine l_pass rfl ?_
                            refine l_pass rfl ?_
                            refine l_x rfl (x_pick_f rfl rfl) ?_
                            refine l_x rfl (x_as rfl) ?_
                            refine l_nil ?_
                            refine r_ret (rs := [.tmp 4]) [_] Try.func10 rfl ⟨rfl, trivial⟩ ?_
                            exact ⟨congrArg Value.bool (by exfalso; omega), S39.le⟩
                        · skip
                          refine l_pass rfl ?_
                          refine l_pass rfl ?_
                          refine l_pass rfl ?_
                          refine l_x rfl (x_pick_f rfl rfl) ?_
                          refine l_x rfl (x_mv rfl) ?_
                          refine l_pass rfl ?_
                          refine l_pass rfl ?_
                          refine l_pass rfl ?_
                          refine l_x rfl (x_pick_f rfl rfl) ?_
                          refine l_x rfl (x_as rfl) ?_
                          refine l_nil ?_
                          refine r_ret (rs := [.tmp 4]) [_] Try.func10 rfl ⟨rfl, trivial⟩ ?_
                          exact ⟨congrArg Value.bool (by exfalso; omega), S39.le⟩
                      · skip
                        refine l_pass rfl ?_
                        refine l_pass rfl ?_
                        refine l_pass rfl ?_
                        refine l_x rfl (x_pick_f rfl rfl) ?_
                        refine l_x rfl (x_mv rfl) ?_
                        refine l_pass rfl ?_
                        refine l_pass rfl ?_
                        refine l_pass rfl ?_
                        refine l_x rfl (x_pick_f rfl rfl) ?_
                        refine l_x rfl (x_mv rfl) ?_
                        refine l_pass rfl ?_
                        refine l_pass rfl ?_
                        refine l_pass rfl ?_
                        refine l_x rfl (x_pick_f rfl rfl) ?_
                        refine l_x rfl (x_as rfl) ?_
                        refine l_nil ?_
                        refine r_ret (rs := [.tmp 4]) [_] Try.func10 rfl ⟨rfl, trivial⟩ ?_
                        exact ⟨congrArg Value.bool (by exfalso; omega), S39.le⟩
                    · skip
                      refine l_pass rfl ?_
                      refine l_pass rfl ?_
                      refine l_pass rfl ?_
                      refine l_x rfl (x_pick_f rfl rfl) ?_
                      refine l_x rfl (x_mv rfl) ?_
                      refine l_pass rfl ?_
                      refine l_pass rfl ?_
                      refine l_pass rfl ?_
                      refine l_x rfl (x_pick_f rfl rfl) ?_
                      refine l_x rfl (x_mv rfl) ?_
                      refine l_pass rfl ?_
                      refine l_pass rfl ?_
                      refine l_pass rfl ?_
                      refine l_x rfl (x_pick_f rfl rfl) ?_
                      refine l_x rfl (x_mv rfl) ?_
                      refine l_pass rfl ?_
                      refine l_pass rfl ?_
                      refine l_pass rfl ?_
                      refine l_x rfl (x_pick_f rfl rfl) ?_
                      refine l_x rfl (x_as rfl) ?_
                      refine l_nil ?_
                      refine r_ret (rs := [.tmp 4]) [_] Try.func10 rfl ⟨rfl, trivial⟩ ?_
                      exact ⟨congrArg Value.bool (by exfalso; omega), S39.le⟩
                  · skip
                    refine l_pass rfl ?_
                    refine l_pass rfl ?_
                    refine l_x rfl (x_pick_f rfl rfl) ?_
                    refine l_x rfl (x_mv rfl) ?_
                    refine l_pass rfl ?_
                    refine l_pass rfl ?_
                    refine l_pass rfl ?_
                    refine l_x rfl (x_pick_f rfl rfl) ?_
                    refine l_x rfl (x_mv rfl) ?_
                    refine l_pass rfl ?_
                    refine l_pass rfl ?_
                    refine l_pass rfl ?_
                    refine l_x rfl (x_pick_f rfl rfl) ?_
                    refine l_x rfl (x_mv rfl) ?_
                    refine l_pass rfl ?_
                    refine l_pass rfl ?_
                    refine l_pass rfl ?_
                    refine l_x rfl (x_pick_f rfl rfl) ?_
                    refine l_x rfl (x_mv rfl) ?_
                    refine l_pass rfl ?_
                    refine l_pass rfl ?_
                    refine l_pass rfl ?_
                    refine l_x rfl (x_pick_f rfl rfl) ?_
                    refine l_x rfl (x_as rfl) ?_
                    refine l_nil ?_
                    refine r_ret (rs := [.tmp 4]) [_] Try.func10 rfl ⟨rfl, trivial⟩ ?_
                    exact ⟨congrArg Value.bool (by exfalso; omega), S39.le⟩
                · exact absurd hd2 hg83
              · exact absurd hd1 hg72
          · skip
            refine r_region ?_
            refine l_x rfl (x_load rfl (ld_blks (S19.blk 0 rfl) Try.isAgg24 Try.sizeOf24 rfl rfl)) ?_
            refine l_call [] [] [_] rfl rfl Try.call37 rfl (c_rCheck _ _ _ _ (hA.le S19.le)) ?_
            rintro _ w41 ⟨rfl, hl43⟩
            have S42 := S19.step hl43
            refine l_x rfl (x_neq rfl rfl) ?_
            refine l_x rfl (x_mv rfl) ?_
            refine l_splitd (d := 62) rfl (fun hg62 => ?_) (fun hg62 => ?_)
            · exact absurd hd1 hg62
            · skip
              refine l_pass rfl ?_
              refine l_pass rfl ?_
              refine l_pass rfl ?_
              refine l_pass rfl ?_
              refine l_x rfl (x_pick_f rfl rfl) ?_
              refine l_x rfl (x_mv rfl) ?_
              refine l_x rfl (x_load rfl (ld_blks (S42.blk 0 rfl) Try.isAgg24 Try.sizeOf24 rfl rfl)) ?_
              refine l_call [] [] [_] rfl rfl Try.call37 rfl (c_rCheck _ _ _ _ (hA.le S42.le)) ?_
              rintro _ w44 ⟨rfl, hl46⟩
              have S45 := S42.step hl46
              refine l_x rfl (x_eql rfl rfl) ?_
              refine l_x rfl (x_mv rfl) ?_
              refine l_splitd (d := 72) rfl (fun hg72 => ?_) (fun hg72 => ?_)
              · skip
                refine l_x rfl (x_load rfl (ld_blks (S45.blk 0 rfl) Try.isAgg24 Try.sizeOf24 rfl rfl)) ?_
                refine l_x rfl (x_mv rfl) ?_
                refine l_call [] [] [_, _] rfl rfl Try.call47 rfl (c_rWeightsK _ _ _ _ _ _ (by first | omega | (rw [unit_length]; omega) | (rw [List.length_map]; omega) | decide) hd3 _ (hA.le S45.le) (Hwl.le S45.le)) ?_
                rintro _ w47 ⟨rfl, hl49⟩
                have S48 := S45.step hl49
                refine l_x rfl (x_not rfl) ?_
                refine l_x rfl (x_pick_t rfl rfl) ?_
                refine l_x rfl (x_mv rfl) ?_
                refine l_pass rfl ?_
                refine l_pass rfl ?_
                refine l_x rfl (x_pick_f rfl rfl) ?_
                refine l_x rfl (x_pick_f rfl rfl) ?_
                refine l_x rfl (x_mv rfl) ?_
                refine l_x rfl (x_mv rfl) ?_
                refine l_x rfl (x_eql rfl rfl) ?_
                refine l_x rfl (x_mv rfl) ?_
                refine l_splitd (d := 86) rfl (fun hg86 => ?_) (fun hg86 => ?_)
                · skip
                  refine l_x rfl (x_mv rfl) ?_
                  refine l_x rfl (x_eql rfl rfl) ?_
                  refine l_x rfl (x_pick_t rfl rfl) ?_
                  refine l_x rfl (x_mv rfl) ?_
                  refine l_splitd (d := 90) rfl (fun hg90 => ?_) (fun hg90 => ?_)
                  · skip
                    refine l_x rfl (x_load rfl (ld_blks (S48.blk 0 rfl) Try.isAgg24 Try.sizeOf24 rfl rfl)) ?_
                    refine l_x rfl (x_mv rfl) ?_
                    refine l_call [] [] [_, _] rfl rfl Try.call47 rfl (c_rWeightsK _ _ _ _ _ _ (by first | omega | (rw [unit_length]; omega) | (rw [List.length_map]; omega) | decide) hd3 _ (hA.le S48.le) (Hwl.le S48.le)) ?_
                    rintro _ w50 ⟨rfl, hl52⟩
                    have S51 := S48.step hl52
                    refine l_x rfl (x_pick_t rfl rfl) ?_
                    refine l_x rfl (x_pick_f rfl rfl) ?_
                    refine l_x rfl (x_as rfl) ?_
                    refine l_nil ?_
                    refine r_seq ?_
                    refine r_region ?_
                    refine l_call [] [] [] rfl rfl Try.call19 rfl (c_flowing _) ?_
                    rintro _ w53 ⟨rfl, hl55⟩
                    have S54 := S51.step hl55
                    refine l_x rfl (x_mv rfl) ?_
                    refine l_x rfl (x_mv rfl) ?_
                    refine l_x rfl (x_pick_t rfl rfl) ?_
                    refine l_x rfl (x_mv rfl) ?_
                    refine l_x rfl (x_mv rfl) ?_
                    refine l_x rfl (x_eql rfl rfl) ?_
                    refine l_x rfl (x_pick_t rfl rfl) ?_
                    refine l_x rfl (x_mv rfl) ?_
                    refine l_splitd (d := 104) rfl (fun hg104 => ?_) (fun hg104 => ?_)
                    · skip
                      refine l_x rfl (x_mv rfl) ?_
                      refine l_x rfl (x_eql rfl rfl) ?_
                      refine l_x rfl (x_pick_t rfl rfl) ?_
                      refine l_x rfl (x_mv rfl) ?_
                      refine l_splitd (d := 108) rfl (fun hg108 => ?_) (fun hg108 => ?_)
                      · skip
                        refine l_x rfl (x_mv rfl) ?_
                        refine l_x rfl (x_len (vec_rd (S54.at 1 rfl)) rfl Try.runUnderlying25) ?_
                        refine l_x rfl (x_eql rfl rfl) ?_
                        refine l_x rfl (x_pick_t rfl rfl) ?_
                        refine l_x rfl (x_mv rfl) ?_
                        refine l_splitd (d := 113) rfl (fun hg113 => ?_) (fun hg113 => ?_)
                        · skip
                          refine l_x rfl (x_mv rfl) ?_
                          refine l_x rfl (x_len (vec_rd (S54.at 3 rfl)) rfl Try.runUnderlying25) ?_
                          refine l_x rfl (x_eql rfl rfl) ?_
                          refine l_x rfl (x_pick_t rfl rfl) ?_
                          refine l_x rfl (x_mv rfl) ?_
                          refine l_splitd (d := 118) rfl (fun hg118 => ?_) (fun hg118 => ?_)
                          · skip
                            refine l_x rfl (x_mv rfl) ?_
                            refine l_x rfl (x_len (vec_rd (S54.at 2 rfl)) rfl Try.runUnderlying25) ?_
                            refine l_x rfl (x_eql rfl rfl) ?_
                            refine l_x rfl (x_pick_t rfl rfl) ?_
                            refine l_x rfl (x_mv rfl) ?_
                            refine l_splitd (d := 123) rfl (fun hg123 => ?_) (fun hg123 => ?_)
                            · skip
                              refine l_x rfl (x_mv rfl) ?_
                              refine l_x rfl (x_len (vec_rd (S54.at 4 rfl)) rfl Try.runUnderlying25) ?_
                              refine l_x rfl (x_eql rfl rfl) ?_
                              refine l_x rfl (x_pick_t rfl rfl) ?_
                              refine l_x rfl (x_as rfl) ?_
                              refine l_nil ?_
                              refine r_ret (rs := [.tmp 4]) [_] Try.func10 rfl ⟨rfl, trivial⟩ ?_
                              exact ⟨congrArg Value.bool (decide_eq_true (by omega)), S54.le⟩
                            · skip
                              refine l_pass rfl ?_
                              refine l_pass rfl ?_
                              refine l_pass rfl ?_
                              refine l_x rfl (x_pick_f rfl rfl) ?_
                              refine l_x rfl (x_as rfl) ?_
                              refine l_nil ?_
                              refine r_ret (rs := [.tmp 4]) [_] Try.func10 rfl ⟨rfl, trivial⟩ ?_
                              exact ⟨congrArg Value.bool (by exfalso; omega), S54.le⟩
                          · skip
                            refine l_pass rfl ?_
                            refine l_pass rfl ?_
                            refine l_pass rfl ?_
                            refine l_x rfl (x_pick_f rfl rfl) ?_
                            refine l_x rfl (x_mv rfl) ?_
                            refine l_pass rfl ?_
                            refine l_pass rfl ?_
                            refine l_pass rfl ?_
                            refine l_x rfl (x_pick_f rfl rfl) ?_
                            refine l_x rfl (x_as rfl) ?_
                            refine l_nil ?_
                            refine r_ret (rs := [.tmp 4]) [_] Try.func10 rfl ⟨rfl, trivial⟩ ?_
                            exact ⟨congrArg Value.bool (by exfalso; omega), S54.le⟩
                        · skip
                          refine l_pass rfl ?_
                          refine l_pass rfl ?_
                          refine l_pass rfl ?_
                          refine l_x rfl (x_pick_f rfl rfl) ?_
                          refine l_x rfl (x_mv rfl) ?_
                          refine l_pass rfl ?_
                          refine l_pass rfl ?_
                          refine l_pass rfl ?_
                          refine l_x rfl (x_pick_f rfl rfl) ?_
                          refine l_x rfl (x_mv rfl) ?_
                          refine l_pass rfl ?_
                          refine l_pass rfl ?_
                          refine l_pass rfl ?_
                          refine l_x rfl (x_pick_f rfl rfl) ?_
                          refine l_x rfl (x_as rfl) ?_
                          refine l_nil ?_
                          refine r_ret (rs := [.tmp 4]) [_] Try.func10 rfl ⟨rfl, trivial⟩ ?_
                          exact ⟨congrArg Value.bool (by exfalso; omega), S54.le⟩
                      · skip
                        refine l_pass rfl ?_
                        refine l_pass rfl ?_
                        refine l_pass rfl ?_
                        refine l_x rfl (x_pick_f rfl rfl) ?_
                        refine l_x rfl (x_mv rfl) ?_
                        refine l_pass rfl ?_
                        refine l_pass rfl ?_
                        refine l_pass rfl ?_
                        refine l_x rfl (x_pick_f rfl rfl) ?_
                        refine l_x rfl (x_mv rfl) ?_
                        refine l_pass rfl ?_
                        refine l_pass rfl ?_
                        refine l_pass rfl ?_
                        refine l_x rfl (x_pick_f rfl rfl) ?_
                        refine l_x rfl (x_mv rfl) ?_
                        refine l_pass rfl ?_
                        refine l_pass rfl ?_
                        refine l_pass rfl ?_
                        refine l_x rfl (x_pick_f rfl rfl) ?_
                        refine l_x rfl (x_as rfl) ?_
                        refine l_nil ?_
                        refine r_ret (rs := [.tmp 4]) [_] Try.func10 rfl ⟨rfl, trivial⟩ ?_
                        exact ⟨congrArg Value.bool (by exfalso; omega), S54.le⟩
                    · skip
                      refine l_pass rfl ?_
                      refine l_pass rfl ?_
                      refine l_x rfl (x_pick_f rfl rfl) ?_
                      refine l_x rfl (x_mv rfl) ?_
                      refine l_pass rfl ?_
                      refine l_pass rfl ?_
                      refine l_pass rfl ?_
                      refine l_x rfl (x_pick_f rfl rfl) ?_
                      refine l_x rfl (x_mv rfl) ?_
                      refine l_pass rfl ?_
                      refine l_pass rfl ?_
                      refine l_pass rfl ?_
                      refine l_x rfl (x_pick_f rfl rfl) ?_
                      refine l_x rfl (x_mv rfl) ?_
                      refine l_pass rfl ?_
                      refine l_pass rfl ?_
                      refine l_pass rfl ?_
                      refine l_x rfl (x_pick_f rfl rfl) ?_
                      refine l_x rfl (x_mv rfl) ?_
                      refine l_pass rfl ?_
                      refine l_pass rfl ?_
                      refine l_pass rfl ?_
                      refine l_x rfl (x_pick_f rfl rfl) ?_
                      refine l_x rfl (x_as rfl) ?_
                      refine l_nil ?_
                      refine r_ret (rs := [.tmp 4]) [_] Try.func10 rfl ⟨rfl, trivial⟩ ?_
                      exact ⟨congrArg Value.bool (by exfalso; omega), S54.le⟩
                  · exact absurd hd2 hg90
                · exact absurd hd4 hg86
              · exact absurd hd1 hg72
        · skip
          obtain ⟨hV, hw0, ho, hn⟩ := GrR.opt hRG (Decidable.not_not.1 hc53)
          obtain ⟨_, _, ho2, hm⟩ := GrR.opt hRL (by omega)
          rw [dot_neg] at hm
          refine r_skip ?_
          refine r_seq ?_
          have S56 := S17.pick (L' := [_, _, _, _, _]) [0, 1, 2, 3, 4] (by decide) rfl
          refine r_forget [(1, vw), (2, .pointer (some ⟨b4, 0, none⟩)), (5, .int .i64 n3614), (6, vx3614), (7, vp3614), (9, .int .i64 n4416), (10, vx4416), (11, vp4416)] ⟨rfl, rfl, rfl, rfl, rfl, rfl, rfl, rfl, trivial⟩ ?_
          intro ρ57
          refine r_region ?_
          refine l_x rfl (x_load rfl (ld_blks (S56.blk 0 rfl) Try.isAgg24 Try.sizeOf24 rfl rfl)) ?_
          refine l_x rfl (x_mv rfl) ?_
          refine l_x rfl (x_mv rfl) ?_
          refine l_x rfl (x_mv rfl) ?_
          refine l_call [] [] [_, _, _, _] rfl rfl Try.call39 rfl (c_rCheckBest _ _ _ _ _ _ _ _ _ (by first | omega | (rw [unit_length]; omega) | (rw [List.length_map]; omega) | decide) (by first | omega | (rw [unit_length]; omega) | (rw [List.length_map]; omega) | decide) (by first | omega | (rw [unit_length]; omega) | (rw [List.length_map]; omega) | decide) _ (hA.le S56.le) (Hwl.le S56.le) (vec_rd (S56.at 1 rfl)) (vec_rd (S56.at 2 rfl))) ?_
          rintro _ w58 ⟨k13358, e13358, rfl, hl13358, hR13358⟩
          have S59 := S56.step hl13358
          obtain ⟨rfl, he1⟩ := hR13358.yes hV hw0 ho
          refine l_x rfl (x_mv rfl) ?_
          refine l_x rfl (x_extract rfl rfl) ?_
          refine l_x rfl (x_extract rfl rfl) ?_
          refine l_x rfl (x_as rfl) ?_
          refine l_x rfl (x_as rfl) ?_
          refine l_nil ?_
          refine r_seq ?_
          refine r_drawE 11 nob Try.mixed (by kernel_rfl) ?_
          intro w60 hl61
          have S62 := S59.step hl61
          refine e_exact 0 _ (by kernel_rfl) rfl rfl (by kernel_rfl) rfl (ex_x rfl (fun w1 h1 => x_load rfl (ld_blks ((S62.step h1).blk 0 rfl) Try.isAgg24 Try.sizeOf24 rfl rfl))) ?_
          refine e_exact 1 _ (by kernel_rfl) rfl rfl (by kernel_rfl) rfl (ex_x rfl (fun w1 h1 => x_mv rfl)) ?_
          refine e_exact 3 _ (by kernel_rfl) rfl rfl (by kernel_rfl) rfl (ex_x rfl (fun w1 h1 => x_mv rfl)) ?_
          refine e_exact 4 _ (by kernel_rfl) rfl rfl (by kernel_rfl) rfl (ex_x rfl (fun w1 h1 => x_mv rfl)) ?_
          refine e_next [2] (by kernel_rfl) (by kernel_rfl) ⟨⟨_, _, rfl, rfl, ?_⟩, trivial⟩
          refine s_callf [] [] [_] rfl rfl Try.call48 rfl ((c_rOpposite _ wl (by have := hw0.len; omega) hw0.bd _ (Hwl.le S62.le)).mono ?_)
          rintro v13963 w63 ⟨hN13963, hl13963⟩
          have S64 := S62.add hl13963 hN13963
          refine ⟨.of_le hl13963, ?_⟩
          refine e_next [5] (by kernel_rfl) (by kernel_rfl) ⟨⟨_, _, rfl, rfl, ?_⟩, trivial⟩
          refine s_callf [] [] [_, _, _, _] rfl rfl Try.call39 rfl ((c_rCheckBest _ _ _ _ _ _ _ _ _ (by first | omega | (rw [unit_length]; omega) | (rw [List.length_map]; omega) | decide) (by first | omega | (rw [unit_length]; omega) | (rw [List.length_map]; omega) | decide) (by first | omega | (rw [unit_length]; omega) | (rw [List.length_map]; omega) | decide) _ (hA.le S64.le) (vec_rd (S64.at 5 rfl)) (vec_rd (S64.at 3 rfl)) (vec_rd (S64.at 4 rfl))).mono ?_)
          rintro _ w65 ⟨k14265, e14265, rfl, hl14265, hR14265⟩
          have S66 := S64.step hl14265
          refine ⟨.of_le hl14265, ?_⟩
          obtain ⟨rfl, he2⟩ := hR14265.yes hV (neg_wts hw0) ho2
          refine e_exact 6 _ (by kernel_rfl) rfl rfl (by kernel_rfl) rfl (ex_x rfl (fun w1 h1 => x_mv rfl)) ?_
          refine e_exact 7 _ (by kernel_rfl) rfl rfl (by kernel_rfl) rfl (ex_x rfl (fun w1 h1 => x_extract rfl rfl)) ?_
          refine e_exact 8 _ (by kernel_rfl) rfl rfl (by kernel_rfl) rfl (ex_x rfl (fun w1 h1 => x_extract rfl rfl)) ?_
          refine e_exact 9 _ (by kernel_rfl) rfl rfl (by kernel_rfl) rfl (ex_x rfl (fun w1 h1 => x_as rfl)) ?_
          refine e_exact 10 _ (by kernel_rfl) rfl rfl (by kernel_rfl) rfl (ex_x rfl (fun w1 h1 => x_as rfl)) ?_
          refine e_done (by kernel_rfl) ?_
          refine l_nil ?_
          refine r_seq ?_
          refine r_region ?_
          refine l_x rfl (x_load rfl (ld_blks (S66.blk 0 rfl) Try.isAgg24 Try.sizeOf24 rfl rfl)) ?_
          refine l_x rfl (x_mv rfl) ?_
          refine l_x rfl (x_mv rfl) ?_
          refine l_call [] [] [_, _, _] rfl rfl Try.call33 rfl (c_rSum _ _ _ _ _ _ _ (by first | omega | (rw [unit_length]; omega) | (rw [List.length_map]; omega) | decide) (by first | omega | (rw [unit_length]; omega) | (rw [List.length_map]; omega) | decide) _ (hA.le S66.le) (Hwl.le S66.le) (vec_rd (S66.at 1 rfl))) ?_
          rintro _ w67 ⟨k14967, e14967, rfl, hl14967, hR14967⟩
          have S68 := S66.step hl14967
          obtain ⟨hs1, he3⟩ := hR14967.yes hV hw0 ho.circ
          refine l_x rfl (x_mv rfl) ?_
          refine l_x rfl (x_extract rfl rfl) ?_
          refine l_x rfl (x_extract rfl rfl) ?_
          refine l_x rfl (x_as rfl) ?_
          refine l_x rfl (x_as rfl) ?_
          refine l_nil ?_
          refine r_seq ?_
          refine r_region ?_
          refine l_x rfl (x_load rfl (ld_blks (S68.blk 0 rfl) Try.isAgg24 Try.sizeOf24 rfl rfl)) ?_
          refine l_x rfl (x_mv rfl) ?_
          refine l_x rfl (x_mv rfl) ?_
          refine l_call [] [] [_, _, _] rfl rfl Try.call33 rfl (c_rSum _ _ _ _ _ _ _ (by first | omega | (rw [unit_length]; omega) | (rw [List.length_map]; omega) | decide) (by first | omega | (rw [unit_length]; omega) | (rw [List.length_map]; omega) | decide) _ (hA.le S68.le) (Hwl.le S68.le) (vec_rd (S68.at 3 rfl))) ?_
          rintro _ w69 ⟨k15669, e15669, rfl, hl15669, hR15669⟩
          have S70 := S68.step hl15669
          obtain ⟨hs2, he4⟩ := hR15669.yes hV hw0 ho2.circ
          refine l_x rfl (x_mv rfl) ?_
          refine l_x rfl (x_extract rfl rfl) ?_
          refine l_x rfl (x_extract rfl rfl) ?_
          refine l_x rfl (x_as rfl) ?_
          refine l_x rfl (x_as rfl) ?_
          refine l_nil ?_
          refine r_seq ?_
          refine r_region ?_
          refine l_call [] [] [] rfl rfl Try.call19 rfl (c_flowing _) ?_
          rintro _ w71 ⟨rfl, hl73⟩
          have S72 := S70.step hl73
          refine l_x rfl (x_mv rfl) ?_
          refine l_x rfl (x_mv rfl) ?_
          refine l_x rfl (x_eql rfl rfl) ?_
          refine l_x rfl (x_pick_t rfl rfl) ?_
          refine l_x rfl (x_mv rfl) ?_
          refine l_splitd (d := 164) rfl (fun hg164 => ?_) (fun hg164 => ?_)
          · skip
            refine l_x rfl (x_mv rfl) ?_
            refine l_x rfl (x_eql rfl rfl) ?_
            refine l_x rfl (x_pick_t rfl rfl) ?_
            refine l_x rfl (x_mv rfl) ?_
            refine l_splitd (d := 168) rfl (fun hg168 => ?_) (fun hg168 => ?_)
            · skip
              refine l_x rfl (x_mv rfl) ?_
              refine l_x rfl (x_eql rfl rfl) ?_
              refine l_x rfl (x_pick_t rfl rfl) ?_
              refine l_x rfl (x_mv rfl) ?_
              refine l_splitd (d := 172) rfl (fun hg172 => ?_) (fun hg172 => ?_)
              · skip
                refine l_x rfl (x_mv rfl) ?_
                refine l_x rfl (x_eql rfl rfl) ?_
                refine l_x rfl (x_pick_t rfl rfl) ?_
                refine l_x rfl (x_mv rfl) ?_
                refine l_splitd (d := 176) rfl (fun hg176 => ?_) (fun hg176 => ?_)
                · skip
                  refine l_x rfl (x_mv rfl) ?_
                  refine l_x rfl (x_pick_t rfl rfl) ?_
                  refine l_x rfl (x_mv rfl) ?_
                  refine l_x rfl (x_mv rfl) ?_
                  refine l_x rfl (x_pick_t rfl rfl) ?_
                  refine l_x rfl (x_mv rfl) ?_
                  refine l_x rfl (x_mv rfl) ?_
                  refine l_x rfl (x_mv rfl) ?_
                  refine l_x rfl (x_eql rfl rfl) ?_
                  refine l_x rfl (x_pick_t rfl rfl) ?_
                  refine l_x rfl (x_mv rfl) ?_
                  refine l_splitd (d := 187) rfl (fun hg187 => ?_) (fun hg187 => ?_)
                  · skip
                    refine l_x rfl (x_mv rfl) ?_
                    refine l_x rfl (x_mv rfl) ?_
                    refine l_x rfl (x_eql rfl rfl) ?_
                    refine l_x rfl (x_pick_t rfl rfl) ?_
                    refine l_x rfl (x_as rfl) ?_
                    refine l_nil ?_
                    refine r_ret (rs := [.tmp 4]) [_] Try.func10 rfl ⟨rfl, trivial⟩ ?_
                    exact ⟨congrArg Value.bool (decide_eq_true (by omega)), S72.le⟩
                  · skip
                    refine l_pass rfl ?_
                    refine l_pass rfl ?_
                    refine l_pass rfl ?_
                    refine l_x rfl (x_pick_f rfl rfl) ?_
                    refine l_x rfl (x_as rfl) ?_
                    refine l_nil ?_
                    refine r_ret (rs := [.tmp 4]) [_] Try.func10 rfl ⟨rfl, trivial⟩ ?_
                    exact ⟨congrArg Value.bool (by exfalso; omega), S72.le⟩
                · skip
                  refine l_pass rfl ?_
                  refine l_x rfl (x_pick_f rfl rfl) ?_
                  refine l_x rfl (x_mv rfl) ?_
                  refine l_pass rfl ?_
                  refine l_x rfl (x_pick_f rfl rfl) ?_
                  refine l_x rfl (x_mv rfl) ?_
                  refine l_pass rfl ?_
                  refine l_pass rfl ?_
                  refine l_pass rfl ?_
                  refine l_x rfl (x_pick_f rfl rfl) ?_
                  refine l_x rfl (x_mv rfl) ?_
                  refine l_pass rfl ?_
                  refine l_pass rfl ?_
                  refine l_pass rfl ?_
                  refine l_x rfl (x_pick_f rfl rfl) ?_
                  refine l_x rfl (x_as rfl) ?_
                  refine l_nil ?_
                  refine r_ret (rs := [.tmp 4]) [_] Try.func10 rfl ⟨rfl, trivial⟩ ?_
                  exact ⟨congrArg Value.bool (by exfalso; omega), S72.le⟩
              · skip
                refine l_pass rfl ?_
                refine l_pass rfl ?_
                refine l_x rfl (x_pick_f rfl rfl) ?_
                refine l_x rfl (x_mv rfl) ?_
                refine l_pass rfl ?_
                refine l_x rfl (x_pick_f rfl rfl) ?_
                refine l_x rfl (x_mv rfl) ?_
                refine l_pass rfl ?_
                refine l_x rfl (x_pick_f rfl rfl) ?_
                refine l_x rfl (x_mv rfl) ?_
                refine l_pass rfl ?_
                refine l_pass rfl ?_
                refine l_pass rfl ?_
                refine l_x rfl (x_pick_f rfl rfl) ?_
                refine l_x rfl (x_mv rfl) ?_
                refine l_pass rfl ?_
                refine l_pass rfl ?_
                refine l_pass rfl ?_
                refine l_x rfl (x_pick_f rfl rfl) ?_
                refine l_x rfl (x_as rfl) ?_
                refine l_nil ?_
                refine r_ret (rs := [.tmp 4]) [_] Try.func10 rfl ⟨rfl, trivial⟩ ?_
                exact ⟨congrArg Value.bool (by exfalso; omega), S72.le⟩
            · skip
              refine l_pass rfl ?_
              refine l_pass rfl ?_
              refine l_x rfl (x_pick_f rfl rfl) ?_
              refine l_x rfl (x_mv rfl) ?_
              refine l_pass rfl ?_
              refine l_pass rfl ?_
              refine l_x rfl (x_pick_f rfl rfl) ?_
              refine l_x rfl (x_mv rfl) ?_
              refine l_pass rfl ?_
              refine l_x rfl (x_pick_f rfl rfl) ?_
              refine l_x rfl (x_mv rfl) ?_
              refine l_pass rfl ?_
              refine l_x rfl (x_pick_f rfl rfl) ?_
              refine l_x rfl (x_mv rfl) ?_
              refine l_pass rfl ?_
              refine l_pass rfl ?_
              refine l_pass rfl ?_
              refine l_x rfl (x_pick_f rfl rfl) ?_
              refine l_x rfl (x_mv rfl) ?_
              refine l_pass rfl ?_
              refine l_pass rfl ?_
              refine l_pass rfl ?_
              refine l_x rfl (x_pick_f rfl rfl) ?_
              refine l_x rfl (x_as rfl) ?_
              refine l_nil ?_
              refine r_ret (rs := [.tmp 4]) [_] Try.func10 rfl ⟨rfl, trivial⟩ ?_
              exact ⟨congrArg Value.bool (by exfalso; omega), S72.le⟩
          · skip
            refine l_pass rfl ?_
            refine l_pass rfl ?_
            refine l_x rfl (x_pick_f rfl rfl) ?_
            refine l_x rfl (x_mv rfl) ?_
            refine l_pass rfl ?_
            refine l_pass rfl ?_
            refine l_x rfl (x_pick_f rfl rfl) ?_
            refine l_x rfl (x_mv rfl) ?_
            refine l_pass rfl ?_
            refine l_pass rfl ?_
            refine l_x rfl (x_pick_f rfl rfl) ?_
            refine l_x rfl (x_mv rfl) ?_
            refine l_pass rfl ?_
            refine l_x rfl (x_pick_f rfl rfl) ?_
            refine l_x rfl (x_mv rfl) ?_
            refine l_pass rfl ?_
            refine l_x rfl (x_pick_f rfl rfl) ?_
            refine l_x rfl (x_mv rfl) ?_
            refine l_pass rfl ?_
            refine l_pass rfl ?_
            refine l_pass rfl ?_
            refine l_x rfl (x_pick_f rfl rfl) ?_
            refine l_x rfl (x_mv rfl) ?_
            refine l_pass rfl ?_
            refine l_pass rfl ?_
            refine l_pass rfl ?_
            refine l_x rfl (x_pick_f rfl rfl) ?_
            refine l_x rfl (x_as rfl) ?_
            refine l_nil ?_
            refine r_ret (rs := [.tmp 4]) [_] Try.func10 rfl ⟨rfl, trivial⟩ ?_
            exact ⟨congrArg Value.bool (by exfalso; omega), S72.le⟩

end Go.Proofs

/-
  The statement of FlowBest: for every input the law returns true, and its arguments read as they did. No condition.
-/
namespace Go.Proofs
open Go Go.Vk Go.Vk.Flow

open Go.ChangeShapes Go.WideShapes Go.RowKit Go.Joins
namespace Ytddapgjjndbejaa
set_option maxRecDepth 100000 in
theorem liftedBest (os : Os) (started : os.Started) (H : Type) (enc : TypeId × Value → H) :
    ReturnsInHanded {} Try.checked os 10 .any (Rows.flowBestSpec.pre6 enc Try.prog Try.f10 Rows.flowBestRow.domain false) (Rows.flowBestSpec.post enc Try.prog Try.f10 false true false false) := by
  refine returnsInHanded_of_change (C := Try.checked) ownT started (by kernel_rfl) Try.func10
    (ChangeSpec.witness6 (enc := enc) (C := Try.checked) false ⟨#[], #[.agg #[.int .i64 0, .slice none 0 0], .slice none 0 0], []⟩ 8 (by kernel_rfl) (by kernel_rfl) (by kernel_rfl) (by kernel_rfl)) ?_
  intro W base args ds gs before hval0 hW hcnd _
  have hval : ∀ (j : Nat) t v, Try.f10.params[j]? = some t → args[j]? = some v → Value.okWide Try.prog W .any base t v := hval0
  have hW' := hW
  obtain ⟨p, q, hA0, hV, rfl, hfz, hnd⟩ := hW
  have hA : DataW.TrodAll enc Try.prog W 0 (fun _ => true) true Try.f10.params.toList args.toList ds p := hA0
  rw [Try.params10] at hA hval
  obtain ⟨v0, vs0, d0, ds0, p0, q0, hargs, rfl, rfl, h0, r0⟩ := trodAll_cons hA
  obtain ⟨v1, vs1, d1, ds1, p1, q1, rfl, rfl, rfl, h1, r1⟩ := trodAll_cons r0
  obtain ⟨rfl, rfl, rfl⟩ := trodAll_nil r1
  obtain rfl : args = #[v0, v1] := by cases args; simp_all
  obtain ⟨rfl, rfl⟩ := trodVars_none hV
  obtain ⟨N0, va0, arcs0, rfl, hQ0, hm0⟩ := openNet (hval 0 24 v0 rfl rfl) h0
  obtain ⟨l1, hQ1, hm1⟩ := openInts (hval 1 25 v1 rfl rfl) h1
  clear hA0 hval0
  exact (lawBest N0 va0 arcs0 _ l1 W hQ0 hQ1).mono fun v W' ⟨hv, hle⟩ => by
    subst hv
    exact post_law hW' laidT (by rw [Try.params10]; exact fun t ht => by revert t; decide +kernel) (by kernel_rfl) Try.underlying4 rfl rfl rfl rfl hle
/-- FlowBest: whatever the input, the law returns true, and its arguments read as they did. -/
theorem flowBest : Rows.FlowBestSaid :=
  OpenClaim.holds_of_wide 10 Try.f10 rfl rfl rfl rfl rfl rfl rfl ⟨rfl, rfl, rfl, rfl, rfl⟩ rfl rfl rfl rfl rfl (by kernel_rfl) Try.func10 (by kernel_rfl)
    (of_decide_eq_true (by kernel_rfl)) (by unfold Func.isWrapper; rw [if_neg (of_decide_eq_false (by kernel_rfl))]; exact ⟨rfl, rfl⟩)
    (fun os started H enc _ => liftedBest os started H enc)
#print axioms flowBest
end Ytddapgjjndbejaa

end Go.Proofs
