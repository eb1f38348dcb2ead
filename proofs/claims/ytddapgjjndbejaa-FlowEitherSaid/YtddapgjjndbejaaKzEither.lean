/-
  The statement of FlowEither: for every input the law returns true, and its arguments read as they did. No condition.
-/
import Derived.Test.YtddapgjjndbejaaKg
/-
  Contracts of functions of the program: each by symbolic execution of its text.
-/
namespace Go.Proofs
open Go Go.Vk Go.Vk.Flow

set_option maxHeartbeats 4000000 in
/-- couchant/couchantlaw06.FlowEither. -/
theorem lawEither (N : Int) (va : Value) (arcs : List Arc) (vx : Value) (x : List Int) (A : Int) (vn : Value) (ns : List Int) (w : World) (hA : Rd EA w va arcs) (Hx : Rd EI w vx x) (Hn : Rd EI w vn ns) :
    Cl Try.prog 8 #[.agg #[.int .i64 N, va], vx, .agg #[.int .i64 A, vn]] w fun v w' => v = .bool true ∧ Le w w' := by
  refine fn_of_run (args := [_, _, _]) 148 Try.func8 rfl rfl rfl fun cs => ?_
  have S := Own.start (X := nob) w
  refine r_seq ?_
  refine r_region ?_
  refine l_box S rfl rfl ?_
  intro b4 w1 S2 hl3
  refine l_box S2 rfl rfl ?_
  intro b8 w5 S6 hl7
  refine l_x rfl (x_as rfl) ?_
  refine l_nil ?_
  refine r_seq ?_
  refine r_seq ?_
  refine r_region ?_
  refine l_x rfl (x_load rfl (ld_blks (S6.blk 0 rfl) Try.isAgg24 Try.sizeOf24 rfl rfl)) ?_
  refine l_call [] [] [_] rfl rfl Try.call18 rfl (c_small _ _ _ _ (hA.le S6.le)) ?_
  rintro _ w9 ⟨rfl, hl11⟩
  have S10 := S6.step hl11
  refine l_x rfl (x_not rfl) ?_
  refine l_x rfl (x_mv rfl) ?_
  refine l_split (d := 23) rfl (fun hg23 => ?_) (fun hg23 => ?_)
  · skip
    refine l_pass rfl ?_
    refine l_pass rfl ?_
    refine l_pass rfl ?_
    refine l_x rfl (x_pick_t rfl rfl) ?_
    refine l_x rfl (x_mv rfl) ?_
    refine l_pass rfl ?_
    refine l_pass rfl ?_
    refine l_pass rfl ?_
    refine l_pass rfl ?_
    refine l_x rfl (x_pick_t rfl rfl) ?_
    refine l_nil ?_
    refine r_true rfl ?_
    refine r_seq ?_
    refine r_region ?_
    refine l_call [] [] [] rfl rfl Try.call19 rfl (c_flowing _) ?_
    rintro _ w12 ⟨rfl, hl14⟩
    have S13 := S10.step hl14
    refine l_x rfl (x_as rfl) ?_
    refine l_nil ?_
    refine r_ret (rs := [.tmp 6]) [_] Try.func8 rfl ⟨rfl, trivial⟩ ?_
    exact ⟨rfl, S13.le⟩
  · skip
    refine l_x rfl (x_mv rfl) ?_
    refine l_x rfl (x_len (Hx.le S10.le) rfl Try.runUnderlying25) ?_
    refine l_x rfl (x_gtr rfl rfl) ?_
    refine l_x rfl (x_pick_f rfl rfl) ?_
    refine l_x rfl (x_mv rfl) ?_
    refine l_splitd (d := 28) rfl (fun hg28 => ?_) (fun hg28 => ?_)
    · skip
      refine l_pass rfl ?_
      refine l_pass rfl ?_
      refine l_pass rfl ?_
      refine l_pass rfl ?_
      refine l_x rfl (x_pick_t rfl rfl) ?_
      refine l_nil ?_
      refine r_true rfl ?_
      refine r_seq ?_
      refine r_region ?_
      refine l_call [] [] [] rfl rfl Try.call19 rfl (c_flowing _) ?_
      rintro _ w15 ⟨rfl, hl17⟩
      have S16 := S10.step hl17
      refine l_x rfl (x_as rfl) ?_
      refine l_nil ?_
      refine r_ret (rs := [.tmp 6]) [_] Try.func8 rfl ⟨rfl, trivial⟩ ?_
      exact ⟨rfl, S16.le⟩
    · skip
      refine l_x rfl (x_fieldAddr rfl Try.runUnderlying43 rfl Try.sizeOf25 (by decide)) ?_
      refine l_x rfl (x_load rfl (ld_blk (S10.blk 1 rfl) Try.isAgg25 rfl)) ?_
      refine l_x rfl (x_len (Hn.le S10.le) rfl Try.runUnderlying25) ?_
      refine l_x rfl (x_gtr rfl rfl) ?_
      refine l_x rfl (x_pick_f rfl rfl) ?_
      refine l_nil ?_
      refine r_ifd rfl (fun hc33 => ?_) (fun hc33 => ?_)
      · skip
        refine r_seq ?_
        refine r_region ?_
        refine l_call [] [] [] rfl rfl Try.call19 rfl (c_flowing _) ?_
        rintro _ w18 ⟨rfl, hl20⟩
        have S19 := S10.step hl20
        refine l_x rfl (x_as rfl) ?_
        refine l_nil ?_
        refine r_ret (rs := [.tmp 6]) [_] Try.func8 rfl ⟨rfl, trivial⟩ ?_
        exact ⟨rfl, S19.le⟩
      · skip
        refine r_skip ?_
        refine r_seq ?_
        have hLs := smallB_le (N := N) (n := arcs.length) (by simpa using hg23)
        refine r_region ?_
        refine l_x rfl (x_load rfl (ld_blks (S10.blk 0 rfl) Try.isAgg24 Try.sizeOf24 rfl rfl)) ?_
        refine l_call [] [] [_] rfl rfl Try.call43 rfl (c_Some _ _ _ _ (hA.le S10.le)) ?_
        rintro _ w21 ⟨vx3721, x3721, e3721, rfl, hN3721, hl3721, hR3721⟩
        have S22 := S10.add hl3721 hN3721
        have hRS := hR3721
        refine l_x rfl (x_mv rfl) ?_
        refine l_x rfl (x_extract rfl rfl) ?_
        refine l_x rfl (x_extract rfl rfl) ?_
        refine l_x rfl (x_as rfl) ?_
        refine l_x rfl (x_as rfl) ?_
        refine l_nil ?_
        refine r_seq ?_
        refine r_region ?_
        refine l_x rfl (x_load rfl (ld_blks (S22.blk 0 rfl) Try.isAgg24 Try.sizeOf24 rfl rfl)) ?_
        refine l_call [] [] [_] rfl rfl Try.call44 rfl (c_Obstacle2 _ _ _ _ (hA.le S22.le)) ?_
        rintro _ w23 (⟨A4223, vn4223, ns4223, e4223, rfl, hN4223, hl4223, hR4223⟩ | ⟨A4223, vn4223, ns4223, e4223, rfl, hN4223, hl4223, hR4223⟩)
        · skip
          have S24 := S22.add hl4223 hN4223
          obtain ⟨hE, hV, hO⟩ := eitherT hRS hR4223
          have hnl := hind_len hV hO
          refine l_x rfl (x_mv rfl) ?_
          refine l_x rfl (x_extract rfl rfl) ?_
          refine l_x rfl (x_extract rfl rfl) ?_
          refine l_x rfl (x_extract rfl rfl) ?_
          refine l_alloc S24 rfl Try.zeroValue43 rfl ?_
          intro b28 w25 S26 hl27
          refine l_stores (vs := [_, _]) S26 4 rfl rfl rfl rfl (ones_cons rfl (ones_cons (Rd.one (vec_rd (S26.at 3 rfl))) ones_nil)) Try.sizeOf43 (by first | exact Nat.le_refl _ | simp) (splice_all rfl) ?_
          intro w29 S30 hk31
          refine l_x rfl (x_as rfl) ?_
          refine l_x rfl (x_as rfl) ?_
          refine l_nil ?_
          refine r_seq ?_
          refine r_seq ?_
          refine r_region ?_
          refine l_x rfl (x_mv rfl) ?_
          refine l_x rfl (x_neq rfl rfl) ?_
          refine l_nil ?_
          refine r_ifd rfl (fun hc47 => ?_) (fun hc47 => ?_)
          · exact absurd hE.1 hc47
          · skip
            refine r_skip ?_
            refine r_seq ?_
            have S32 := S30.pick (L' := [_, _, _, _, _]) [0, 1, 2, 3, 4] (by decide) rfl
            refine r_forget [(1, vx), (3, .pointer (some ⟨b4, 0, none⟩)), (5, .pointer (some ⟨b8, 0, none⟩)), (7, vx3721), (8, .int .i64 e3721), (9, .pointer (some ⟨b28, 0, none⟩)), (10, .bool true)] ⟨rfl, rfl, rfl, rfl, rfl, rfl, rfl, trivial⟩ ?_
            intro ρ33
            refine r_region ?_
            refine l_x rfl (x_load rfl (ld_blks (S32.blk 0 rfl) Try.isAgg24 Try.sizeOf24 rfl rfl)) ?_
            refine l_x rfl (x_mv rfl) ?_
            refine l_call [] [] [_, _] rfl rfl Try.call21 rfl (c_KeptR2 _ _ _ _ _ (by first | omega | (rw [unit_length]; omega) | (rw [List.length_map]; omega) | decide) _ (hA.le S32.le) (Hx.le S32.le)) ?_
            rintro _ w34 (⟨e7234, rfl, hl7234, hR7234⟩ | ⟨e7234, rfl, hl7234, hR7234⟩)
            · exact (hind_no hV hO (hR7234.2.1 rfl).2).elim
            · skip
              have S35 := S32.step hl7234
              have hRK := hR7234
              refine l_x rfl (x_mv rfl) ?_
              refine l_x rfl (x_extract rfl rfl) ?_
              refine l_x rfl (x_extract rfl rfl) ?_
              refine l_x rfl (x_as rfl) ?_
              refine l_x rfl (x_as rfl) ?_
              refine l_nil ?_
              refine r_seq ?_
              refine r_region ?_
              refine l_x rfl (x_load rfl (ld_blks (S35.blk 0 rfl) Try.isAgg24 Try.sizeOf24 rfl rfl)) ?_
              refine l_x rfl (x_load rfl (ld_blks (S35.blk 1 rfl) Try.isAgg43 Try.sizeOf43 rfl rfl)) ?_
              refine l_call [] [] [_, _] rfl rfl Try.call25 rfl (c_CheckObstacle2 _ _ _ _ _ _ (by first | omega | (rw [unit_length]; omega) | (rw [List.length_map]; omega) | decide) _ (hA.le S35.le) (Hn.le S35.le)) ?_
              rintro _ w36 (⟨e7836, rfl, hl7836, hR7836⟩ | ⟨e7836, rfl, hl7836, hR7836⟩)
              · skip
                have S37 := S35.step hl7836
                have hce := hR7836.1
                have hch := chk_zero.2 hV
                refine l_x rfl (x_mv rfl) ?_
                refine l_x rfl (x_extract rfl rfl) ?_
                refine l_x rfl (x_extract rfl rfl) ?_
                refine l_x rfl (x_as rfl) ?_
                refine l_x rfl (x_as rfl) ?_
                refine l_nil ?_
                refine r_seq ?_
                refine r_seq ?_
                refine r_region ?_
                refine l_x rfl (x_mv rfl) ?_
                refine l_x rfl (x_neq rfl rfl) ?_
                refine l_nil ?_
                refine r_ifd rfl (fun hc82 => ?_) (fun hc82 => ?_)
                · skip
                  refine r_seq ?_
                  refine r_region ?_
                  refine l_x rfl (x_as rfl) ?_
                  refine l_nil ?_
                  refine r_ret (rs := [.tmp 6]) [_] Try.func8 rfl ⟨rfl, trivial⟩ ?_
                  exact ⟨congrArg Value.bool (by exfalso; omega), S37.le⟩
                · skip
                  refine r_skip ?_
                  refine r_seq ?_
                  refine r_seq ?_
                  refine r_region ?_
                  refine l_x rfl (x_mv rfl) ?_
                  refine l_nil ?_
                  refine r_true rfl ?_
                  refine r_seq ?_
                  refine r_region ?_
                  refine l_x rfl (x_load rfl (ld_blks (S37.blk 0 rfl) Try.isAgg24 Try.sizeOf24 rfl rfl)) ?_
                  refine l_x rfl (x_load rfl (ld_blks (S37.blk 4 rfl) Try.isAgg43 Try.sizeOf43 rfl rfl)) ?_
                  refine l_call [] [] [_, _] rfl rfl Try.call26 rfl (c_rCheckObstacle _ _ _ _ _ _ (by first | omega | (rw [unit_length]; omega) | (rw [List.length_map]; omega) | decide) _ (hA.le S37.le) (vec_rd (S37.at 3 rfl))) ?_
                  rintro _ w38 ⟨k8738, e8738, rfl, hl8738, hR8738⟩
                  have S39 := S37.step hl8738
                  obtain ⟨rfl, he9⟩ := hR8738.yes hV hO
                  refine l_x rfl (x_mv rfl) ?_
                  refine l_x rfl (x_extract rfl rfl) ?_
                  refine l_x rfl (x_extract rfl rfl) ?_
                  refine l_x rfl (x_as rfl) ?_
                  refine l_x rfl (x_as rfl) ?_
                  refine l_nil ?_
                  refine r_seq ?_
                  refine r_region ?_
                  refine l_call [] [] [] rfl rfl Try.call19 rfl (c_flowing _) ?_
                  rintro _ w40 ⟨rfl, hl42⟩
                  have S41 := S39.step hl42
                  refine l_x rfl (x_mv rfl) ?_
                  refine l_x rfl (x_mv rfl) ?_
                  refine l_x rfl (x_eql rfl rfl) ?_
                  refine l_x rfl (x_pick_t rfl rfl) ?_
                  refine l_x rfl (x_mv rfl) ?_
                  refine l_splitd (d := 95) rfl (fun hg95 => ?_) (fun hg95 => ?_)
                  · skip
                    refine l_x rfl (x_mv rfl) ?_
                    refine l_x rfl (x_len (vec_rd (S41.at 2 rfl)) rfl Try.runUnderlying25) ?_
                    refine l_x rfl (x_eql rfl rfl) ?_
                    refine l_x rfl (x_pick_t rfl rfl) ?_
                    refine l_x rfl (x_mv rfl) ?_
                    refine l_splitd (d := 100) rfl (fun hg100 => ?_) (fun hg100 => ?_)
                    · skip
                      refine l_x rfl (x_mv rfl) ?_
                      refine l_x rfl (x_pick_t rfl rfl) ?_
                      refine l_x rfl (x_mv rfl) ?_
                      refine l_x rfl (x_mv rfl) ?_
                      refine l_x rfl (x_eql rfl rfl) ?_
                      refine l_x rfl (x_pick_t rfl rfl) ?_
                      refine l_x rfl (x_mv rfl) ?_
                      refine l_splitd (d := 107) rfl (fun hg107 => ?_) (fun hg107 => ?_)
                      · skip
                        refine l_x rfl (x_mv rfl) ?_
                        refine l_x rfl (x_eql rfl rfl) ?_
                        refine l_x rfl (x_mv rfl) ?_
                        refine l_splitd (d := 110) rfl (fun hg110 => ?_) (fun hg110 => ?_)
                        · skip
                          refine l_x rfl (x_mv rfl) ?_
                          refine l_x rfl (x_pick_t rfl rfl) ?_
                          refine l_x rfl (x_not rfl) ?_
                          refine l_x rfl (x_pick_t rfl rfl) ?_
                          refine l_x rfl (x_as rfl) ?_
                          refine l_nil ?_
                          refine r_ret (rs := [.tmp 6]) [_] Try.func8 rfl ⟨rfl, trivial⟩ ?_
                          exact ⟨rfl, S41.le⟩
                        · skip
                          refine l_pass rfl ?_
                          refine l_x rfl (x_pick_f rfl rfl) ?_
                          refine l_x rfl (x_not rfl) ?_
                          refine l_x rfl (x_pick_t rfl rfl) ?_
                          refine l_x rfl (x_as rfl) ?_
                          refine l_nil ?_
                          refine r_ret (rs := [.tmp 6]) [_] Try.func8 rfl ⟨rfl, trivial⟩ ?_
                          exact ⟨rfl, S41.le⟩
                      · skip
                        refine l_pass rfl ?_
                        refine l_pass rfl ?_
                        refine l_pass rfl ?_
                        refine l_pass rfl ?_
                        refine l_pass rfl ?_
                        refine l_pass rfl ?_
                        refine l_x rfl (x_pick_f rfl rfl) ?_
                        refine l_x rfl (x_as rfl) ?_
                        refine l_nil ?_
                        refine r_ret (rs := [.tmp 6]) [_] Try.func8 rfl ⟨rfl, trivial⟩ ?_
                        exact ⟨congrArg Value.bool (by exfalso; omega), S41.le⟩
                    · skip
                      refine l_pass rfl ?_
                      refine l_x rfl (x_pick_f rfl rfl) ?_
                      refine l_x rfl (x_mv rfl) ?_
                      refine l_pass rfl ?_
                      refine l_pass rfl ?_
                      refine l_x rfl (x_pick_f rfl rfl) ?_
                      refine l_x rfl (x_mv rfl) ?_
                      refine l_pass rfl ?_
                      refine l_pass rfl ?_
                      refine l_pass rfl ?_
                      refine l_pass rfl ?_
                      refine l_pass rfl ?_
                      refine l_pass rfl ?_
                      refine l_x rfl (x_pick_f rfl rfl) ?_
                      refine l_x rfl (x_as rfl) ?_
                      refine l_nil ?_
                      refine r_ret (rs := [.tmp 6]) [_] Try.func8 rfl ⟨rfl, trivial⟩ ?_
                      exact ⟨congrArg Value.bool (by exfalso; omega), S41.le⟩
                  · skip
                    refine l_pass rfl ?_
                    refine l_pass rfl ?_
                    refine l_pass rfl ?_
                    refine l_x rfl (x_pick_f rfl rfl) ?_
                    refine l_x rfl (x_mv rfl) ?_
                    refine l_pass rfl ?_
                    refine l_x rfl (x_pick_f rfl rfl) ?_
                    refine l_x rfl (x_mv rfl) ?_
                    refine l_pass rfl ?_
                    refine l_pass rfl ?_
                    refine l_x rfl (x_pick_f rfl rfl) ?_
                    refine l_x rfl (x_mv rfl) ?_
                    refine l_pass rfl ?_
                    refine l_pass rfl ?_
                    refine l_pass rfl ?_
                    refine l_pass rfl ?_
                    refine l_pass rfl ?_
                    refine l_pass rfl ?_
                    refine l_x rfl (x_pick_f rfl rfl) ?_
                    refine l_x rfl (x_as rfl) ?_
                    refine l_nil ?_
                    refine r_ret (rs := [.tmp 6]) [_] Try.func8 rfl ⟨rfl, trivial⟩ ?_
                    exact ⟨congrArg Value.bool (by exfalso; omega), S41.le⟩
              · skip
                have S43 := S35.step hl7836
                have hce := hR7836.1
                have hch := chk_zero.2 hV
                refine l_x rfl (x_mv rfl) ?_
                refine l_x rfl (x_extract rfl rfl) ?_
                refine l_x rfl (x_extract rfl rfl) ?_
                refine l_x rfl (x_as rfl) ?_
                refine l_x rfl (x_as rfl) ?_
                refine l_nil ?_
                refine r_seq ?_
                refine r_seq ?_
                refine r_region ?_
                refine l_x rfl (x_mv rfl) ?_
                refine l_x rfl (x_neq rfl rfl) ?_
                refine l_nil ?_
                refine r_ifd rfl (fun hc82 => ?_) (fun hc82 => ?_)
                · skip
                  refine r_seq ?_
                  refine r_region ?_
                  refine l_x rfl (x_as rfl) ?_
                  refine l_nil ?_
                  refine r_ret (rs := [.tmp 6]) [_] Try.func8 rfl ⟨rfl, trivial⟩ ?_
                  exact ⟨congrArg Value.bool (by exfalso; omega), S43.le⟩
                · skip
                  refine r_skip ?_
                  refine r_seq ?_
                  refine r_seq ?_
                  refine r_region ?_
                  refine l_x rfl (x_mv rfl) ?_
                  refine l_nil ?_
                  refine r_true rfl ?_
                  refine r_seq ?_
                  refine r_region ?_
                  refine l_x rfl (x_load rfl (ld_blks (S43.blk 0 rfl) Try.isAgg24 Try.sizeOf24 rfl rfl)) ?_
                  refine l_x rfl (x_load rfl (ld_blks (S43.blk 4 rfl) Try.isAgg43 Try.sizeOf43 rfl rfl)) ?_
                  refine l_call [] [] [_, _] rfl rfl Try.call26 rfl (c_rCheckObstacle _ _ _ _ _ _ (by first | omega | (rw [unit_length]; omega) | (rw [List.length_map]; omega) | decide) _ (hA.le S43.le) (vec_rd (S43.at 3 rfl))) ?_
                  rintro _ w44 ⟨k8744, e8744, rfl, hl8744, hR8744⟩
                  have S45 := S43.step hl8744
                  obtain ⟨rfl, he9⟩ := hR8744.yes hV hO
                  refine l_x rfl (x_mv rfl) ?_
                  refine l_x rfl (x_extract rfl rfl) ?_
                  refine l_x rfl (x_extract rfl rfl) ?_
                  refine l_x rfl (x_as rfl) ?_
                  refine l_x rfl (x_as rfl) ?_
                  refine l_nil ?_
                  refine r_seq ?_
                  refine r_region ?_
                  refine l_call [] [] [] rfl rfl Try.call19 rfl (c_flowing _) ?_
                  rintro _ w46 ⟨rfl, hl48⟩
                  have S47 := S45.step hl48
                  refine l_x rfl (x_mv rfl) ?_
                  refine l_x rfl (x_mv rfl) ?_
                  refine l_x rfl (x_eql rfl rfl) ?_
                  refine l_x rfl (x_pick_t rfl rfl) ?_
                  refine l_x rfl (x_mv rfl) ?_
                  refine l_splitd (d := 95) rfl (fun hg95 => ?_) (fun hg95 => ?_)
                  · skip
                    refine l_x rfl (x_mv rfl) ?_
                    refine l_x rfl (x_len (vec_rd (S47.at 2 rfl)) rfl Try.runUnderlying25) ?_
                    refine l_x rfl (x_eql rfl rfl) ?_
                    refine l_x rfl (x_pick_t rfl rfl) ?_
                    refine l_x rfl (x_mv rfl) ?_
                    refine l_splitd (d := 100) rfl (fun hg100 => ?_) (fun hg100 => ?_)
                    · skip
                      refine l_x rfl (x_mv rfl) ?_
                      refine l_x rfl (x_pick_t rfl rfl) ?_
                      refine l_x rfl (x_mv rfl) ?_
                      refine l_x rfl (x_mv rfl) ?_
                      refine l_x rfl (x_eql rfl rfl) ?_
                      refine l_x rfl (x_pick_t rfl rfl) ?_
                      refine l_x rfl (x_mv rfl) ?_
                      refine l_splitd (d := 107) rfl (fun hg107 => ?_) (fun hg107 => ?_)
                      · skip
                        refine l_x rfl (x_mv rfl) ?_
                        refine l_x rfl (x_eql rfl rfl) ?_
                        refine l_x rfl (x_mv rfl) ?_
                        refine l_splitd (d := 110) rfl (fun hg110 => ?_) (fun hg110 => ?_)
                        · skip
                          refine l_x rfl (x_mv rfl) ?_
                          refine l_x rfl (x_pick_t rfl rfl) ?_
                          refine l_x rfl (x_not rfl) ?_
                          refine l_x rfl (x_pick_t rfl rfl) ?_
                          refine l_x rfl (x_as rfl) ?_
                          refine l_nil ?_
                          refine r_ret (rs := [.tmp 6]) [_] Try.func8 rfl ⟨rfl, trivial⟩ ?_
                          exact ⟨rfl, S47.le⟩
                        · skip
                          refine l_pass rfl ?_
                          refine l_x rfl (x_pick_f rfl rfl) ?_
                          refine l_x rfl (x_not rfl) ?_
                          refine l_x rfl (x_pick_t rfl rfl) ?_
                          refine l_x rfl (x_as rfl) ?_
                          refine l_nil ?_
                          refine r_ret (rs := [.tmp 6]) [_] Try.func8 rfl ⟨rfl, trivial⟩ ?_
                          exact ⟨rfl, S47.le⟩
                      · skip
                        refine l_pass rfl ?_
                        refine l_pass rfl ?_
                        refine l_pass rfl ?_
                        refine l_pass rfl ?_
                        refine l_pass rfl ?_
                        refine l_pass rfl ?_
                        refine l_x rfl (x_pick_f rfl rfl) ?_
                        refine l_x rfl (x_as rfl) ?_
                        refine l_nil ?_
                        refine r_ret (rs := [.tmp 6]) [_] Try.func8 rfl ⟨rfl, trivial⟩ ?_
                        exact ⟨congrArg Value.bool (by exfalso; omega), S47.le⟩
                    · skip
                      refine l_pass rfl ?_
                      refine l_x rfl (x_pick_f rfl rfl) ?_
                      refine l_x rfl (x_mv rfl) ?_
                      refine l_pass rfl ?_
                      refine l_pass rfl ?_
                      refine l_x rfl (x_pick_f rfl rfl) ?_
                      refine l_x rfl (x_mv rfl) ?_
                      refine l_pass rfl ?_
                      refine l_pass rfl ?_
                      refine l_pass rfl ?_
                      refine l_pass rfl ?_
                      refine l_pass rfl ?_
                      refine l_pass rfl ?_
                      refine l_x rfl (x_pick_f rfl rfl) ?_
                      refine l_x rfl (x_as rfl) ?_
                      refine l_nil ?_
                      refine r_ret (rs := [.tmp 6]) [_] Try.func8 rfl ⟨rfl, trivial⟩ ?_
                      exact ⟨congrArg Value.bool (by exfalso; omega), S47.le⟩
                  · skip
                    refine l_pass rfl ?_
                    refine l_pass rfl ?_
                    refine l_pass rfl ?_
                    refine l_x rfl (x_pick_f rfl rfl) ?_
                    refine l_x rfl (x_mv rfl) ?_
                    refine l_pass rfl ?_
                    refine l_x rfl (x_pick_f rfl rfl) ?_
                    refine l_x rfl (x_mv rfl) ?_
                    refine l_pass rfl ?_
                    refine l_pass rfl ?_
                    refine l_x rfl (x_pick_f rfl rfl) ?_
                    refine l_x rfl (x_mv rfl) ?_
                    refine l_pass rfl ?_
                    refine l_pass rfl ?_
                    refine l_pass rfl ?_
                    refine l_pass rfl ?_
                    refine l_pass rfl ?_
                    refine l_pass rfl ?_
                    refine l_x rfl (x_pick_f rfl rfl) ?_
                    refine l_x rfl (x_as rfl) ?_
                    refine l_nil ?_
                    refine r_ret (rs := [.tmp 6]) [_] Try.func8 rfl ⟨rfl, trivial⟩ ?_
                    exact ⟨congrArg Value.bool (by exfalso; omega), S47.le⟩
        · skip
          have S49 := S22.add hl4223 hN4223
          obtain ⟨hE1, hE2, hE3⟩ := eitherF hRS hR4223
          refine l_x rfl (x_mv rfl) ?_
          refine l_x rfl (x_extract rfl rfl) ?_
          refine l_x rfl (x_extract rfl rfl) ?_
          refine l_x rfl (x_extract rfl rfl) ?_
          refine l_alloc S49 rfl Try.zeroValue43 rfl ?_
          intro b53 w50 S51 hl52
          refine l_stores (vs := [_, _]) S51 4 rfl rfl rfl rfl (ones_cons rfl (ones_cons (Rd.one (vec_rd (S51.at 3 rfl))) ones_nil)) Try.sizeOf43 (by first | exact Nat.le_refl _ | simp) (splice_all rfl) ?_
          intro w54 S55 hk56
          refine l_x rfl (x_as rfl) ?_
          refine l_x rfl (x_as rfl) ?_
          refine l_nil ?_
          refine r_seq ?_
          refine r_seq ?_
          refine r_region ?_
          refine l_x rfl (x_mv rfl) ?_
          refine l_x rfl (x_neq rfl rfl) ?_
          refine l_nil ?_
          refine r_ifd rfl (fun hc47 => ?_) (fun hc47 => ?_)
          · skip
            refine r_seq ?_
            refine r_region ?_
            refine l_call [] [] [] rfl rfl Try.call19 rfl (c_flowing _) ?_
            rintro _ w57 ⟨rfl, hl59⟩
            have S58 := S55.step hl59
            refine l_x rfl (x_mv rfl) ?_
            refine l_x rfl (x_mv rfl) ?_
            refine l_x rfl (x_mv rfl) ?_
            refine l_x rfl (x_eql rfl rfl) ?_
            refine l_x rfl (x_pick_t rfl rfl) ?_
            refine l_x rfl (x_mv rfl) ?_
            refine l_splitd (d := 54) rfl (fun hg54 => ?_) (fun hg54 => ?_)
            · skip
              refine l_x rfl (x_mv rfl) ?_
              refine l_x rfl (x_load rfl (ld_blks (S58.blk 0 rfl) Try.isAgg24 Try.sizeOf24 rfl rfl)) ?_
              refine l_call [] [] [_] rfl rfl Try.call37 rfl (c_rCheck _ _ _ _ (hA.le S58.le)) ?_
              rintro _ w60 ⟨rfl, hl62⟩
              have S61 := S58.step hl62
              refine l_x rfl (x_eql rfl rfl) ?_
              refine l_x rfl (x_pick_t rfl rfl) ?_
              refine l_x rfl (x_mv rfl) ?_
              refine l_splitd (d := 60) rfl (fun hg60 => ?_) (fun hg60 => ?_)
              · skip
                refine l_x rfl (x_mv rfl) ?_
                refine l_x rfl (x_len (vec_rd (S61.at 2 rfl)) rfl Try.runUnderlying25) ?_
                refine l_x rfl (x_eql rfl rfl) ?_
                refine l_x rfl (x_pick_t rfl rfl) ?_
                refine l_x rfl (x_mv rfl) ?_
                refine l_splitd (d := 65) rfl (fun hg65 => ?_) (fun hg65 => ?_)
                · skip
                  refine l_x rfl (x_mv rfl) ?_
                  refine l_x rfl (x_not rfl) ?_
                  refine l_x rfl (x_pick_t rfl rfl) ?_
                  refine l_x rfl (x_as rfl) ?_
                  refine l_nil ?_
                  refine r_ret (rs := [.tmp 6]) [_] Try.func8 rfl ⟨rfl, trivial⟩ ?_
                  exact ⟨rfl, S61.le⟩
                · skip
                  refine l_pass rfl ?_
                  refine l_pass rfl ?_
                  refine l_x rfl (x_pick_f rfl rfl) ?_
                  refine l_x rfl (x_as rfl) ?_
                  refine l_nil ?_
                  refine r_ret (rs := [.tmp 6]) [_] Try.func8 rfl ⟨rfl, trivial⟩ ?_
                  exact ⟨congrArg Value.bool (by exfalso; omega), S61.le⟩
              · skip
                refine l_pass rfl ?_
                refine l_pass rfl ?_
                refine l_pass rfl ?_
                refine l_x rfl (x_pick_f rfl rfl) ?_
                refine l_x rfl (x_mv rfl) ?_
                refine l_pass rfl ?_
                refine l_pass rfl ?_
                refine l_x rfl (x_pick_f rfl rfl) ?_
                refine l_x rfl (x_as rfl) ?_
                refine l_nil ?_
                refine r_ret (rs := [.tmp 6]) [_] Try.func8 rfl ⟨rfl, trivial⟩ ?_
                exact ⟨congrArg Value.bool (by exfalso; omega), S61.le⟩
            · skip
              refine l_pass rfl ?_
              refine l_pass rfl ?_
              refine l_pass rfl ?_
              refine l_pass rfl ?_
              refine l_x rfl (x_pick_f rfl rfl) ?_
              refine l_x rfl (x_mv rfl) ?_
              refine l_pass rfl ?_
              refine l_pass rfl ?_
              refine l_pass rfl ?_
              refine l_x rfl (x_pick_f rfl rfl) ?_
              refine l_x rfl (x_mv rfl) ?_
              refine l_pass rfl ?_
              refine l_pass rfl ?_
              refine l_x rfl (x_pick_f rfl rfl) ?_
              refine l_x rfl (x_as rfl) ?_
              refine l_nil ?_
              refine r_ret (rs := [.tmp 6]) [_] Try.func8 rfl ⟨rfl, trivial⟩ ?_
              exact ⟨congrArg Value.bool (by exfalso; omega), S58.le⟩
          · skip
            obtain ⟨hV, hC⟩ := hE3 (Decidable.not_not.1 hc47)
            have hyl := hC.bds.1
            have hE := hE2 (Decidable.not_not.1 hc47)
            refine r_skip ?_
            refine r_seq ?_
            have S63 := S55.pick (L' := [_, _, _, _, _]) [0, 1, 2, 3, 4] (by decide) rfl
            refine r_forget [(1, vx), (3, .pointer (some ⟨b4, 0, none⟩)), (5, .pointer (some ⟨b8, 0, none⟩)), (7, vx3721), (8, .int .i64 e3721), (9, .pointer (some ⟨b53, 0, none⟩)), (10, .bool false)] ⟨rfl, rfl, rfl, rfl, rfl, rfl, rfl, trivial⟩ ?_
            intro ρ64
            refine r_region ?_
            refine l_x rfl (x_load rfl (ld_blks (S63.blk 0 rfl) Try.isAgg24 Try.sizeOf24 rfl rfl)) ?_
            refine l_x rfl (x_mv rfl) ?_
            refine l_call [] [] [_, _] rfl rfl Try.call21 rfl (c_KeptR2 _ _ _ _ _ (by first | omega | (rw [unit_length]; omega) | (rw [List.length_map]; omega) | decide) _ (hA.le S63.le) (Hx.le S63.le)) ?_
            rintro _ w65 (⟨e7265, rfl, hl7265, hR7265⟩ | ⟨e7265, rfl, hl7265, hR7265⟩)
            · skip
              have S66 := S63.step hl7265
              have hRK := hR7265
              refine l_x rfl (x_mv rfl) ?_
              refine l_x rfl (x_extract rfl rfl) ?_
              refine l_x rfl (x_extract rfl rfl) ?_
              refine l_x rfl (x_as rfl) ?_
              refine l_x rfl (x_as rfl) ?_
              refine l_nil ?_
              refine r_seq ?_
              refine r_region ?_
              refine l_x rfl (x_load rfl (ld_blks (S66.blk 0 rfl) Try.isAgg24 Try.sizeOf24 rfl rfl)) ?_
              refine l_x rfl (x_load rfl (ld_blks (S66.blk 1 rfl) Try.isAgg43 Try.sizeOf43 rfl rfl)) ?_
              refine l_call [] [] [_, _] rfl rfl Try.call25 rfl (c_CheckObstacle2 _ _ _ _ _ _ (by first | omega | (rw [unit_length]; omega) | (rw [List.length_map]; omega) | decide) _ (hA.le S66.le) (Hn.le S66.le)) ?_
              rintro _ w67 (⟨e7867, rfl, hl7867, hR7867⟩ | ⟨e7867, rfl, hl7867, hR7867⟩)
              · exact (hind_no hV hR7867.hind hC).elim
              · skip
                have S68 := S66.step hl7867
                have hce := hR7867.1
                have hch := chk_zero.2 hV
                refine l_x rfl (x_mv rfl) ?_
                refine l_x rfl (x_extract rfl rfl) ?_
                refine l_x rfl (x_extract rfl rfl) ?_
                refine l_x rfl (x_as rfl) ?_
                refine l_x rfl (x_as rfl) ?_
                refine l_nil ?_
                refine r_seq ?_
                refine r_seq ?_
                refine r_region ?_
                refine l_x rfl (x_mv rfl) ?_
                refine l_x rfl (x_neq rfl rfl) ?_
                refine l_nil ?_
                refine r_ifd rfl (fun hc82 => ?_) (fun hc82 => ?_)
                · skip
                  refine r_seq ?_
                  refine r_region ?_
                  refine l_x rfl (x_as rfl) ?_
                  refine l_nil ?_
                  refine r_ret (rs := [.tmp 6]) [_] Try.func8 rfl ⟨rfl, trivial⟩ ?_
                  exact ⟨congrArg Value.bool (by exfalso; omega), S68.le⟩
                · skip
                  refine r_skip ?_
                  refine r_seq ?_
                  refine r_seq ?_
                  refine r_region ?_
                  refine l_x rfl (x_mv rfl) ?_
                  refine l_nil ?_
                  refine r_false rfl ?_
                  refine r_skip ?_
                  refine r_seq ?_
                  refine r_region ?_
                  refine l_x rfl (x_load rfl (ld_blks (S68.blk 0 rfl) Try.isAgg24 Try.sizeOf24 rfl rfl)) ?_
                  refine l_x rfl (x_mv rfl) ?_
                  refine l_call [] [] [_, _] rfl rfl Try.call31 rfl (c_rKept _ _ _ _ _ (by first | omega | (rw [unit_length]; omega) | (rw [List.length_map]; omega) | decide) _ (hA.le S68.le) (vec_rd (S68.at 2 rfl))) ?_
                  rintro _ w69 ⟨k11869, e11869, rfl, hl11869, hR11869⟩
                  have S70 := S68.step hl11869
                  obtain ⟨rfl, he9⟩ := hR11869.yes hV hC
                  refine l_x rfl (x_mv rfl) ?_
                  refine l_x rfl (x_extract rfl rfl) ?_
                  refine l_x rfl (x_extract rfl rfl) ?_
                  refine l_x rfl (x_as rfl) ?_
                  refine l_x rfl (x_as rfl) ?_
                  refine l_nil ?_
                  refine r_seq ?_
                  refine r_region ?_
                  refine l_call [] [] [] rfl rfl Try.call19 rfl (c_flowing _) ?_
                  rintro _ w71 ⟨rfl, hl73⟩
                  have S72 := S70.step hl73
                  refine l_x rfl (x_mv rfl) ?_
                  refine l_x rfl (x_mv rfl) ?_
                  refine l_x rfl (x_eql rfl rfl) ?_
                  refine l_x rfl (x_pick_t rfl rfl) ?_
                  refine l_x rfl (x_mv rfl) ?_
                  refine l_splitd (d := 126) rfl (fun hg126 => ?_) (fun hg126 => ?_)
                  · skip
                    refine l_x rfl (x_mv rfl) ?_
                    refine l_x rfl (x_pick_t rfl rfl) ?_
                    refine l_x rfl (x_mv rfl) ?_
                    refine l_x rfl (x_mv rfl) ?_
                    refine l_x rfl (x_eql rfl rfl) ?_
                    refine l_x rfl (x_pick_t rfl rfl) ?_
                    refine l_x rfl (x_mv rfl) ?_
                    refine l_splitd (d := 133) rfl (fun hg133 => ?_) (fun hg133 => ?_)
                    · skip
                      refine l_x rfl (x_mv rfl) ?_
                      refine l_x rfl (x_not rfl) ?_
                      refine l_x rfl (x_pick_t rfl rfl) ?_
                      refine l_x rfl (x_mv rfl) ?_
                      refine l_x rfl (x_fieldAddr rfl Try.runUnderlying43 rfl Try.sizeOf3 (by decide)) ?_
                      refine l_x rfl (x_load rfl (ld_blk (S72.blk 4 rfl) Try.isAgg3 rfl)) ?_
                      refine l_x rfl (x_eql rfl rfl) ?_
                      refine l_x rfl (x_pick_t rfl rfl) ?_
                      refine l_x rfl (x_mv rfl) ?_
                      refine l_splitd (d := 142) rfl (fun hg142 => ?_) (fun hg142 => ?_)
                      · skip
                        refine l_x rfl (x_fieldAddr rfl Try.runUnderlying43 rfl Try.sizeOf25 (by decide)) ?_
                        refine l_x rfl (x_load rfl (ld_blk (S72.blk 4 rfl) Try.isAgg25 rfl)) ?_
                        refine l_x rfl (x_len (vec_rd (S72.at 3 rfl)) rfl Try.runUnderlying25) ?_
                        refine l_x rfl (x_eql rfl rfl) ?_
                        refine l_x rfl (x_pick_t rfl rfl) ?_
                        refine l_x rfl (x_as rfl) ?_
                        refine l_nil ?_
                        refine r_ret (rs := [.tmp 6]) [_] Try.func8 rfl ⟨rfl, trivial⟩ ?_
                        exact ⟨congrArg Value.bool (decide_eq_true (by omega)), S72.le⟩
                      · skip
                        refine l_pass rfl ?_
                        refine l_pass rfl ?_
                        refine l_pass rfl ?_
                        refine l_pass rfl ?_
                        refine l_x rfl (x_pick_f rfl rfl) ?_
                        refine l_x rfl (x_as rfl) ?_
                        refine l_nil ?_
                        refine r_ret (rs := [.tmp 6]) [_] Try.func8 rfl ⟨rfl, trivial⟩ ?_
                        exact ⟨congrArg Value.bool (by exfalso; omega), S72.le⟩
                    · skip
                      refine l_pass rfl ?_
                      refine l_pass rfl ?_
                      refine l_x rfl (x_pick_f rfl rfl) ?_
                      refine l_x rfl (x_mv rfl) ?_
                      refine l_pass rfl ?_
                      refine l_pass rfl ?_
                      refine l_pass rfl ?_
                      refine l_x rfl (x_pick_f rfl rfl) ?_
                      refine l_x rfl (x_mv rfl) ?_
                      refine l_pass rfl ?_
                      refine l_pass rfl ?_
                      refine l_pass rfl ?_
                      refine l_pass rfl ?_
                      refine l_x rfl (x_pick_f rfl rfl) ?_
                      refine l_x rfl (x_as rfl) ?_
                      refine l_nil ?_
                      refine r_ret (rs := [.tmp 6]) [_] Try.func8 rfl ⟨rfl, trivial⟩ ?_
                      exact ⟨congrArg Value.bool (by exfalso; omega), S72.le⟩
                  · skip
                    refine l_pass rfl ?_
                    refine l_x rfl (x_pick_f rfl rfl) ?_
                    refine l_x rfl (x_mv rfl) ?_
                    refine l_pass rfl ?_
                    refine l_pass rfl ?_
                    refine l_x rfl (x_pick_f rfl rfl) ?_
                    refine l_x rfl (x_mv rfl) ?_
                    refine l_pass rfl ?_
                    refine l_pass rfl ?_
                    refine l_x rfl (x_pick_f rfl rfl) ?_
                    refine l_x rfl (x_mv rfl) ?_
                    refine l_pass rfl ?_
                    refine l_pass rfl ?_
                    refine l_pass rfl ?_
                    refine l_x rfl (x_pick_f rfl rfl) ?_
                    refine l_x rfl (x_mv rfl) ?_
                    refine l_pass rfl ?_
                    refine l_pass rfl ?_
                    refine l_pass rfl ?_
                    refine l_pass rfl ?_
                    refine l_x rfl (x_pick_f rfl rfl) ?_
                    refine l_x rfl (x_as rfl) ?_
                    refine l_nil ?_
                    refine r_ret (rs := [.tmp 6]) [_] Try.func8 rfl ⟨rfl, trivial⟩ ?_
                    exact ⟨congrArg Value.bool (by exfalso; omega), S72.le⟩
            · skip
              have S74 := S63.step hl7265
              have hRK := hR7265
              refine l_x rfl (x_mv rfl) ?_
              refine l_x rfl (x_extract rfl rfl) ?_
              refine l_x rfl (x_extract rfl rfl) ?_
              refine l_x rfl (x_as rfl) ?_
              refine l_x rfl (x_as rfl) ?_
              refine l_nil ?_
              refine r_seq ?_
              refine r_region ?_
              refine l_x rfl (x_load rfl (ld_blks (S74.blk 0 rfl) Try.isAgg24 Try.sizeOf24 rfl rfl)) ?_
              refine l_x rfl (x_load rfl (ld_blks (S74.blk 1 rfl) Try.isAgg43 Try.sizeOf43 rfl rfl)) ?_
              refine l_call [] [] [_, _] rfl rfl Try.call25 rfl (c_CheckObstacle2 _ _ _ _ _ _ (by first | omega | (rw [unit_length]; omega) | (rw [List.length_map]; omega) | decide) _ (hA.le S74.le) (Hn.le S74.le)) ?_
              rintro _ w75 (⟨e7875, rfl, hl7875, hR7875⟩ | ⟨e7875, rfl, hl7875, hR7875⟩)
              · exact (hind_no hV hR7875.hind hC).elim
              · skip
                have S76 := S74.step hl7875
                have hce := hR7875.1
                have hch := chk_zero.2 hV
                refine l_x rfl (x_mv rfl) ?_
                refine l_x rfl (x_extract rfl rfl) ?_
                refine l_x rfl (x_extract rfl rfl) ?_
                refine l_x rfl (x_as rfl) ?_
                refine l_x rfl (x_as rfl) ?_
                refine l_nil ?_
                refine r_seq ?_
                refine r_seq ?_
                refine r_region ?_
                refine l_x rfl (x_mv rfl) ?_
                refine l_x rfl (x_neq rfl rfl) ?_
                refine l_nil ?_
                refine r_ifd rfl (fun hc82 => ?_) (fun hc82 => ?_)
                · skip
                  refine r_seq ?_
                  refine r_region ?_
                  refine l_x rfl (x_as rfl) ?_
                  refine l_nil ?_
                  refine r_ret (rs := [.tmp 6]) [_] Try.func8 rfl ⟨rfl, trivial⟩ ?_
                  exact ⟨congrArg Value.bool (by exfalso; omega), S76.le⟩
                · skip
                  refine r_skip ?_
                  refine r_seq ?_
                  refine r_seq ?_
                  refine r_region ?_
                  refine l_x rfl (x_mv rfl) ?_
                  refine l_nil ?_
                  refine r_false rfl ?_
                  refine r_skip ?_
                  refine r_seq ?_
                  refine r_region ?_
                  refine l_x rfl (x_load rfl (ld_blks (S76.blk 0 rfl) Try.isAgg24 Try.sizeOf24 rfl rfl)) ?_
                  refine l_x rfl (x_mv rfl) ?_
                  refine l_call [] [] [_, _] rfl rfl Try.call31 rfl (c_rKept _ _ _ _ _ (by first | omega | (rw [unit_length]; omega) | (rw [List.length_map]; omega) | decide) _ (hA.le S76.le) (vec_rd (S76.at 2 rfl))) ?_
                  rintro _ w77 ⟨k11877, e11877, rfl, hl11877, hR11877⟩
                  have S78 := S76.step hl11877
                  obtain ⟨rfl, he9⟩ := hR11877.yes hV hC
                  refine l_x rfl (x_mv rfl) ?_
                  refine l_x rfl (x_extract rfl rfl) ?_
                  refine l_x rfl (x_extract rfl rfl) ?_
                  refine l_x rfl (x_as rfl) ?_
                  refine l_x rfl (x_as rfl) ?_
                  refine l_nil ?_
                  refine r_seq ?_
                  refine r_region ?_
                  refine l_call [] [] [] rfl rfl Try.call19 rfl (c_flowing _) ?_
                  rintro _ w79 ⟨rfl, hl81⟩
                  have S80 := S78.step hl81
                  refine l_x rfl (x_mv rfl) ?_
                  refine l_x rfl (x_mv rfl) ?_
                  refine l_x rfl (x_eql rfl rfl) ?_
                  refine l_x rfl (x_pick_t rfl rfl) ?_
                  refine l_x rfl (x_mv rfl) ?_
                  refine l_splitd (d := 126) rfl (fun hg126 => ?_) (fun hg126 => ?_)
                  · skip
                    refine l_x rfl (x_mv rfl) ?_
                    refine l_x rfl (x_pick_t rfl rfl) ?_
                    refine l_x rfl (x_mv rfl) ?_
                    refine l_x rfl (x_mv rfl) ?_
                    refine l_x rfl (x_eql rfl rfl) ?_
                    refine l_x rfl (x_pick_t rfl rfl) ?_
                    refine l_x rfl (x_mv rfl) ?_
                    refine l_splitd (d := 133) rfl (fun hg133 => ?_) (fun hg133 => ?_)
                    · skip
                      refine l_x rfl (x_mv rfl) ?_
                      refine l_x rfl (x_not rfl) ?_
                      refine l_x rfl (x_pick_t rfl rfl) ?_
                      refine l_x rfl (x_mv rfl) ?_
                      refine l_x rfl (x_fieldAddr rfl Try.runUnderlying43 rfl Try.sizeOf3 (by decide)) ?_
                      refine l_x rfl (x_load rfl (ld_blk (S80.blk 4 rfl) Try.isAgg3 rfl)) ?_
                      refine l_x rfl (x_eql rfl rfl) ?_
                      refine l_x rfl (x_pick_t rfl rfl) ?_
                      refine l_x rfl (x_mv rfl) ?_
                      refine l_splitd (d := 142) rfl (fun hg142 => ?_) (fun hg142 => ?_)
                      · skip
                        refine l_x rfl (x_fieldAddr rfl Try.runUnderlying43 rfl Try.sizeOf25 (by decide)) ?_
                        refine l_x rfl (x_load rfl (ld_blk (S80.blk 4 rfl) Try.isAgg25 rfl)) ?_
                        refine l_x rfl (x_len (vec_rd (S80.at 3 rfl)) rfl Try.runUnderlying25) ?_
                        refine l_x rfl (x_eql rfl rfl) ?_
                        refine l_x rfl (x_pick_t rfl rfl) ?_
                        refine l_x rfl (x_as rfl) ?_
                        refine l_nil ?_
                        refine r_ret (rs := [.tmp 6]) [_] Try.func8 rfl ⟨rfl, trivial⟩ ?_
                        exact ⟨congrArg Value.bool (decide_eq_true (by omega)), S80.le⟩
                      · skip
                        refine l_pass rfl ?_
                        refine l_pass rfl ?_
                        refine l_pass rfl ?_
                        refine l_pass rfl ?_
                        refine l_x rfl (x_pick_f rfl rfl) ?_
                        refine l_x rfl (x_as rfl) ?_
                        refine l_nil ?_
                        refine r_ret (rs := [.tmp 6]) [_] Try.func8 rfl ⟨rfl, trivial⟩ ?_
                        exact ⟨congrArg Value.bool (by exfalso; omega), S80.le⟩
                    · skip
                      refine l_pass rfl ?_
                      refine l_pass rfl ?_
                      refine l_x rfl (x_pick_f rfl rfl) ?_
                      refine l_x rfl (x_mv rfl) ?_
                      refine l_pass rfl ?_
                      refine l_pass rfl ?_
                      refine l_pass rfl ?_
                      refine l_x rfl (x_pick_f rfl rfl) ?_
                      refine l_x rfl (x_mv rfl) ?_
                      refine l_pass rfl ?_
                      refine l_pass rfl ?_
                      refine l_pass rfl ?_
                      refine l_pass rfl ?_
                      refine l_x rfl (x_pick_f rfl rfl) ?_
                      refine l_x rfl (x_as rfl) ?_
                      refine l_nil ?_
                      refine r_ret (rs := [.tmp 6]) [_] Try.func8 rfl ⟨rfl, trivial⟩ ?_
                      exact ⟨congrArg Value.bool (by exfalso; omega), S80.le⟩
                  · skip
                    refine l_pass rfl ?_
                    refine l_x rfl (x_pick_f rfl rfl) ?_
                    refine l_x rfl (x_mv rfl) ?_
                    refine l_pass rfl ?_
                    refine l_pass rfl ?_
                    refine l_x rfl (x_pick_f rfl rfl) ?_
                    refine l_x rfl (x_mv rfl) ?_
                    refine l_pass rfl ?_
                    refine l_pass rfl ?_
                    refine l_x rfl (x_pick_f rfl rfl) ?_
                    refine l_x rfl (x_mv rfl) ?_
                    refine l_pass rfl ?_
                    refine l_pass rfl ?_
                    refine l_pass rfl ?_
                    refine l_x rfl (x_pick_f rfl rfl) ?_
                    refine l_x rfl (x_mv rfl) ?_
                    refine l_pass rfl ?_
                    refine l_pass rfl ?_
                    refine l_pass rfl ?_
                    refine l_pass rfl ?_
                    refine l_x rfl (x_pick_f rfl rfl) ?_
                    refine l_x rfl (x_as rfl) ?_
                    refine l_nil ?_
                    refine r_ret (rs := [.tmp 6]) [_] Try.func8 rfl ⟨rfl, trivial⟩ ?_
                    exact ⟨congrArg Value.bool (by exfalso; omega), S80.le⟩

end Go.Proofs

/-
  The statement of FlowEither: for every input the law returns true, and its arguments read as they did. No condition.
-/
namespace Go.Proofs
open Go Go.Vk Go.Vk.Flow

open Go.ChangeShapes Go.WideShapes Go.RowKit Go.Joins
namespace Ytddapgjjndbejaa
set_option maxRecDepth 100000 in
theorem liftedEither (os : Os) (started : os.Started) (H : Type) (enc : TypeId × Value → H) :
    ReturnsInHanded {} Try.checked os 8 .any (Rows.flowEitherSpec.pre6 enc Try.prog Try.f8 Rows.flowEitherRow.domain false) (Rows.flowEitherSpec.post enc Try.prog Try.f8 false true false false) := by
  refine returnsInHanded_of_change (C := Try.checked) ownT started (by kernel_rfl) Try.func8
    (ChangeSpec.witness6 (enc := enc) (C := Try.checked) false ⟨#[], #[.agg #[.int .i64 0, .slice none 0 0], .slice none 0 0, .agg #[.int .i64 0, .slice none 0 0]], []⟩ 8 (by kernel_rfl) (by kernel_rfl) (by kernel_rfl) (by kernel_rfl)) ?_
  intro W base args ds gs before hval0 hW hcnd _
  have hval : ∀ (j : Nat) t v, Try.f8.params[j]? = some t → args[j]? = some v → Value.okWide Try.prog W .any base t v := hval0
  have hW' := hW
  obtain ⟨p, q, hA0, hV, rfl, hfz, hnd⟩ := hW
  have hA : DataW.TrodAll enc Try.prog W 0 (fun _ => true) true Try.f8.params.toList args.toList ds p := hA0
  rw [Try.params8] at hA hval
  obtain ⟨v0, vs0, d0, ds0, p0, q0, hargs, rfl, rfl, h0, r0⟩ := trodAll_cons hA
  obtain ⟨v1, vs1, d1, ds1, p1, q1, rfl, rfl, rfl, h1, r1⟩ := trodAll_cons r0
  obtain ⟨v2, vs2, d2, ds2, p2, q2, rfl, rfl, rfl, h2, r2⟩ := trodAll_cons r1
  obtain ⟨rfl, rfl, rfl⟩ := trodAll_nil r2
  obtain rfl : args = #[v0, v1, v2] := by cases args; simp_all
  obtain ⟨rfl, rfl⟩ := trodVars_none hV
  obtain ⟨N0, va0, arcs0, rfl, hQ0, hm0⟩ := openNet (hval 0 24 v0 rfl rfl) h0
  obtain ⟨l1, hQ1, hm1⟩ := openInts (hval 1 25 v1 rfl rfl) h1
  obtain ⟨A2, vn2, ns2, rfl, hQ2, hm2⟩ := openObs (hval 2 43 v2 rfl rfl) h2
  clear hA0 hval0
  exact (lawEither N0 va0 arcs0 _ l1 A2 vn2 ns2 W hQ0 hQ1 hQ2).mono fun v W' ⟨hv, hle⟩ => by
    subst hv
    exact post_law hW' laidT (by rw [Try.params8]; exact fun t ht => by revert t; decide +kernel) (by kernel_rfl) Try.underlying4 rfl rfl rfl rfl hle
/-- FlowEither: whatever the input, the law returns true, and its arguments read as they did. -/
theorem flowEither : Rows.FlowEitherSaid :=
  OpenClaim.holds_of_wide 8 Try.f8 rfl rfl rfl rfl rfl rfl rfl ⟨rfl, rfl, rfl, rfl, rfl⟩ rfl rfl rfl rfl rfl (by kernel_rfl) Try.func8 (by kernel_rfl)
    (of_decide_eq_true (by kernel_rfl)) (by unfold Func.isWrapper; rw [if_neg (of_decide_eq_false (by kernel_rfl))]; exact ⟨rfl, rfl⟩)
    (fun os started H enc _ => liftedEither os started H enc)
#print axioms flowEither
end Ytddapgjjndbejaa

end Go.Proofs
