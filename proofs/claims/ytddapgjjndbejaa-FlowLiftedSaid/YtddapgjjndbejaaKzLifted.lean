/-
  The statement of FlowLifted: for every input the law returns true, and its arguments read as they did. No condition.
-/
import Derived.Test.YtddapgjjndbejaaKg
/-
  Contracts of functions of the program: each by symbolic execution of its text.
-/
namespace Go.Proofs
open Go Go.Vk Go.Vk.Flow

set_option maxHeartbeats 4000000 in
/-- couchant/couchantlaw06.FlowLifted. -/
theorem lawLifted (N : Int) (va : Value) (arcs : List Arc) (vw : Value) (wl : List Int) (r : Int) (w : World) (hA : Rd EA w va arcs) (Hwl : Rd EI w vw wl) :
    Cl Try.prog 9 #[.agg #[.int .i64 N, va], vw, .int .i64 r] w fun v w' => v = .bool true ∧ Le w w' := by
  refine fn_of_run (args := [_, _, _]) 146 Try.func9 rfl rfl rfl fun cs => ?_
  have S := Own.start (X := nob) w
  refine r_seq ?_
  refine r_region ?_
  refine l_box S rfl rfl ?_
  intro b4 w1 S2 hl3
  refine l_x rfl (x_as rfl) ?_
  refine l_nil ?_
  refine r_seq ?_
  refine r_seq ?_
  refine r_region ?_
  refine l_x rfl (x_load rfl (ld_blks (S2.blk 0 rfl) Try.isAgg24 Try.sizeOf24 rfl rfl)) ?_
  refine l_call [] [] [_] rfl rfl Try.call18 rfl (c_small _ _ _ _ (hA.le S2.le)) ?_
  rintro _ w5 ⟨rfl, hl7⟩
  have S6 := S2.step hl7
  refine l_x rfl (x_not rfl) ?_
  refine l_x rfl (x_mv rfl) ?_
  refine l_split (d := 31) rfl (fun hg31 => ?_) (fun hg31 => ?_)
  · skip
    refine l_pass rfl ?_
    refine l_pass rfl ?_
    refine l_pass rfl ?_
    refine l_x rfl (x_pick_t rfl rfl) ?_
    refine l_nil ?_
    refine r_true rfl ?_
    refine r_seq ?_
    refine r_region ?_
    refine l_call [] [] [] rfl rfl Try.call19 rfl (c_flowing _) ?_
    rintro _ w8 ⟨rfl, hl10⟩
    have S9 := S6.step hl10
    refine l_x rfl (x_as rfl) ?_
    refine l_nil ?_
    refine r_ret (rs := [.tmp 6]) [_] Try.func9 rfl ⟨rfl, trivial⟩ ?_
    exact ⟨rfl, S9.le⟩
  · skip
    refine l_x rfl (x_mv rfl) ?_
    refine l_x rfl (x_len (Hwl.le S6.le) rfl Try.runUnderlying25) ?_
    refine l_x rfl (x_gtr rfl rfl) ?_
    refine l_x rfl (x_pick_f rfl rfl) ?_
    refine l_nil ?_
    refine r_ifd rfl (fun hc35 => ?_) (fun hc35 => ?_)
    · skip
      refine r_seq ?_
      refine r_region ?_
      refine l_call [] [] [] rfl rfl Try.call19 rfl (c_flowing _) ?_
      rintro _ w11 ⟨rfl, hl13⟩
      have S12 := S6.step hl13
      refine l_x rfl (x_as rfl) ?_
      refine l_nil ?_
      refine r_ret (rs := [.tmp 6]) [_] Try.func9 rfl ⟨rfl, trivial⟩ ?_
      exact ⟨rfl, S12.le⟩
    · skip
      refine r_skip ?_
      refine r_seq ?_
      refine r_region ?_
      refine l_x rfl (x_load rfl (ld_blks (S6.blk 0 rfl) Try.isAgg24 Try.sizeOf24 rfl rfl)) ?_
      refine l_x rfl (x_mv rfl) ?_
      refine l_call [] [] [_, _] rfl rfl Try.call45 rfl (c_Without2 _ _ _ _ _ (hA.le S6.le)) ?_
      rintro _ w14 (⟨vh4014, rfl, hN4014, hl4014, hnE4014⟩ | ⟨vh4014, e4014, rfl, hN4014, hl4014, hnE4014, hn04014⟩)
      · skip
        have S15 := S6.add hl4014 hN4014
        obtain ⟨hV, hr1, hr2⟩ := wotE_zero.1 hnE4014
        have hLx := hV.len
        refine l_x rfl (x_mv rfl) ?_
        refine l_x rfl (x_extract rfl rfl) ?_
        refine l_x rfl (x_extract rfl rfl) ?_
        refine l_alloc S15 rfl Try.zeroValue24 rfl ?_
        intro b19 w16 S17 hl18
        refine l_stores (vs := [_, _]) S17 2 rfl rfl rfl rfl (ones_cons rfl (ones_cons (Rd.one (vec_rd (S17.at 1 rfl))) ones_nil)) Try.sizeOf24 (by first | exact Nat.le_refl _ | simp) (splice_all rfl) ?_
        intro w20 S21 hk22
        refine l_x rfl (x_as rfl) ?_
        refine l_nil ?_
        refine r_seq ?_
        refine r_seq ?_
        refine r_region ?_
        refine l_x rfl (x_mv rfl) ?_
        refine l_x rfl (x_neq rfl rfl) ?_
        refine l_nil ?_
        refine r_ifd rfl (fun hc44 => ?_) (fun hc44 => ?_)
        · exact absurd rfl hc44
        · skip
          refine r_skip ?_
          refine r_seq ?_
          have S23 := S21.pick (L' := [_, _, _]) [0, 1, 2] (by decide) rfl
          refine r_forget [(1, vw), (2, .int .i64 r), (3, .pointer (some ⟨b4, 0, none⟩)), (7, .pointer (some ⟨b19, 0, none⟩))] ⟨rfl, rfl, rfl, rfl, trivial⟩ ?_
          intro ρ24
          refine r_region ?_
          refine l_x rfl (x_load rfl (ld_blks (S23.blk 0 rfl) Try.isAgg24 Try.sizeOf24 rfl rfl)) ?_
          refine l_call [] [] [_] rfl rfl Try.call44 rfl (c_Obstacle2 _ _ _ _ (hA.le S23.le)) ?_
          rintro _ w25 (⟨A4825, vn4825, ns4825, e4825, rfl, hN4825, hl4825, hR4825⟩ | ⟨A4825, vn4825, ns4825, e4825, rfl, hN4825, hl4825, hR4825⟩)
          · skip
            have S26 := S23.add hl4825 hN4825
            obtain ⟨hf0, hO⟩ := hR4825.isT
            have hoa := askd_zero.2 ⟨hV, hO⟩
            have hnl := hind_len hV hO
            refine l_x rfl (x_mv rfl) ?_
            refine l_x rfl (x_extract rfl rfl) ?_
            refine l_x rfl (x_extract rfl rfl) ?_
            refine l_x rfl (x_extract rfl rfl) ?_
            refine l_alloc S26 rfl Try.zeroValue43 rfl ?_
            intro b30 w27 S28 hl29
            refine l_stores (vs := [_, _]) S28 4 rfl rfl rfl rfl (ones_cons rfl (ones_cons (Rd.one (vec_rd (S28.at 3 rfl))) ones_nil)) Try.sizeOf43 (by first | exact Nat.le_refl _ | simp) (splice_all rfl) ?_
            intro w31 S32 hk33
            refine l_x rfl (x_as rfl) ?_
            refine l_x rfl (x_as rfl) ?_
            refine l_nil ?_
            refine r_seq ?_
            refine r_seq ?_
            refine r_region ?_
            refine l_x rfl (x_mv rfl) ?_
            refine l_x rfl (x_neq rfl rfl) ?_
            refine l_nil ?_
            refine r_ifd rfl (fun hc53 => ?_) (fun hc53 => ?_)
            · skip
              refine r_seq ?_
              refine r_region ?_
              refine l_x rfl (x_as rfl) ?_
              refine l_nil ?_
              refine r_ret (rs := [.tmp 6]) [_] Try.func9 rfl ⟨rfl, trivial⟩ ?_
              exact ⟨congrArg Value.bool (by exfalso; omega), S32.le⟩
            · skip
              refine r_skip ?_
              refine r_seq ?_
              refine r_seq ?_
              refine r_region ?_
              refine l_x rfl (x_mv rfl) ?_
              refine l_nil ?_
              refine r_true rfl ?_
              refine r_seq ?_
              refine r_region ?_
              refine l_x rfl (x_load rfl (ld_blks (S32.blk 0 rfl) Try.isAgg24 Try.sizeOf24 rfl rfl)) ?_
              refine l_x rfl (x_load rfl (ld_blks (S32.blk 4 rfl) Try.isAgg43 Try.sizeOf43 rfl rfl)) ?_
              refine l_call [] [] [_, _] rfl rfl Try.call27 rfl (c_ObstacleRecords _ _ _ _ _ _ (by first | omega | (rw [unit_length]; omega) | (rw [List.length_map]; omega) | decide) _ (hA.le S32.le) (vec_rd (S32.at 3 rfl))) ?_
              rintro _ w34 ⟨s5834, rfl, hN5834, hl5834⟩
              rw [if_pos hoa] at hN5834
              have S35 := S32.add hl5834 hN5834
              refine l_x rfl (x_mv rfl) ?_
              refine l_x rfl (x_extract rfl rfl) ?_
              refine l_x rfl (x_extract rfl rfl) ?_
              refine l_x rfl (x_as rfl) ?_
              refine l_x rfl (x_as rfl) ?_
              refine l_nil ?_
              refine r_seq ?_
              refine r_region ?_
              refine l_x rfl (x_load rfl (ld_blks (S35.blk 2 rfl) Try.isAgg24 Try.sizeOf24 rfl rfl)) ?_
              refine l_x rfl (x_load rfl (ld_blks (S35.blk 4 rfl) Try.isAgg43 Try.sizeOf43 rfl rfl)) ?_
              refine l_call [] [] [_, _] rfl rfl Try.call25 rfl (c_CheckObstacle2 _ _ _ _ _ _ (by first | omega | (rw [unit_length]; omega) | (rw [List.length_map]; omega) | decide) _ (vec_rd (S35.at 1 rfl)) (vec_rd (S35.at 3 rfl))) ?_
              rintro _ w36 (⟨e6436, rfl, hl6436, hR6436⟩ | ⟨e6436, rfl, hl6436, hR6436⟩)
              · skip
                have S37 := S35.step hl6436
                have hce := hR6436.1
                have hch := chk_zero.2 (wot_valid (r := r) hV)
                refine l_x rfl (x_mv rfl) ?_
                refine l_x rfl (x_extract rfl rfl) ?_
                refine l_x rfl (x_extract rfl rfl) ?_
                refine l_x rfl (x_as rfl) ?_
                refine l_x rfl (x_as rfl) ?_
                refine l_nil ?_
                refine r_seq ?_
                have hol := orec_len (A := A4825) (ns := ns4825) hV
                refine r_region ?_
                refine l_call [] [] [] rfl rfl Try.call19 rfl (c_flowing _) ?_
                rintro _ w38 ⟨rfl, hl40⟩
                have S39 := S37.step hl40
                refine l_x rfl (x_mv rfl) ?_
                refine l_x rfl (x_mv rfl) ?_
                refine l_x rfl (x_eql rfl rfl) ?_
                refine l_x rfl (x_pick_t rfl rfl) ?_
                refine l_x rfl (x_mv rfl) ?_
                refine l_splitd (d := 72) rfl (fun hg72 => ?_) (fun hg72 => ?_)
                · skip
                  refine l_x rfl (x_mv rfl) ?_
                  refine l_x rfl (x_eql rfl rfl) ?_
                  refine l_x rfl (x_pick_t rfl rfl) ?_
                  refine l_x rfl (x_mv rfl) ?_
                  refine l_splitd (d := 76) rfl (fun hg76 => ?_) (fun hg76 => ?_)
                  · skip
                    refine l_x rfl (x_mv rfl) ?_
                    refine l_x rfl (x_mv rfl) ?_
                    refine l_call [] [] [_, _] rfl rfl Try.call46 rfl (c_has _ _ _ (by omega) _ (vec_rd (S39.at 5 rfl))) ?_
                    rintro _ w41 ⟨rfl, hl43⟩
                    have S42 := S39.step hl43
                    refine l_x rfl (x_mv rfl) ?_
                    refine l_splitd (d := 80) rfl (fun hg80 => ?_) (fun hg80 => ?_)
                    · skip
                      refine l_pass rfl ?_
                      refine l_x rfl (x_pick_t rfl rfl) ?_
                      refine l_x rfl (x_pick_t rfl rfl) ?_
                      refine l_x rfl (x_as rfl) ?_
                      refine l_nil ?_
                      refine r_ret (rs := [.tmp 6]) [_] Try.func9 rfl ⟨rfl, trivial⟩ ?_
                      exact ⟨rfl, S42.le⟩
                    · skip
                      refine l_x rfl (x_mv rfl) ?_
                      refine l_x rfl (x_pick_f rfl rfl) ?_
                      refine l_x rfl (x_pick_t rfl rfl) ?_
                      refine l_x rfl (x_as rfl) ?_
                      refine l_nil ?_
                      refine r_ret (rs := [.tmp 6]) [_] Try.func9 rfl ⟨rfl, trivial⟩ ?_
                      exact ⟨rfl, S42.le⟩
                  · skip
                    refine l_pass rfl ?_
                    refine l_pass rfl ?_
                    refine l_pass rfl ?_
                    refine l_pass rfl ?_
                    refine l_pass rfl ?_
                    refine l_pass rfl ?_
                    refine l_x rfl (x_pick_f rfl rfl) ?_
                    refine l_x rfl (x_as rfl) ?_
                    refine l_nil ?_
                    refine r_ret (rs := [.tmp 6]) [_] Try.func9 rfl ⟨rfl, trivial⟩ ?_
                    exact ⟨congrArg Value.bool (by exfalso; omega), S39.le⟩
                · skip
                  refine l_pass rfl ?_
                  refine l_pass rfl ?_
                  refine l_x rfl (x_pick_f rfl rfl) ?_
                  refine l_x rfl (x_mv rfl) ?_
                  refine l_pass rfl ?_
                  refine l_pass rfl ?_
                  refine l_pass rfl ?_
                  refine l_pass rfl ?_
                  refine l_pass rfl ?_
                  refine l_pass rfl ?_
                  refine l_x rfl (x_pick_f rfl rfl) ?_
                  refine l_x rfl (x_as rfl) ?_
                  refine l_nil ?_
                  refine r_ret (rs := [.tmp 6]) [_] Try.func9 rfl ⟨rfl, trivial⟩ ?_
                  exact ⟨congrArg Value.bool (by exfalso; omega), S39.le⟩
              · skip
                have S44 := S35.step hl6436
                have hce := hR6436.1
                have hch := chk_zero.2 (wot_valid (r := r) hV)
                refine l_x rfl (x_mv rfl) ?_
                refine l_x rfl (x_extract rfl rfl) ?_
                refine l_x rfl (x_extract rfl rfl) ?_
                refine l_x rfl (x_as rfl) ?_
                refine l_x rfl (x_as rfl) ?_
                refine l_nil ?_
                refine r_seq ?_
                have hol := orec_len (A := A4825) (ns := ns4825) hV
                refine r_region ?_
                refine l_call [] [] [] rfl rfl Try.call19 rfl (c_flowing _) ?_
                rintro _ w45 ⟨rfl, hl47⟩
                have S46 := S44.step hl47
                refine l_x rfl (x_mv rfl) ?_
                refine l_x rfl (x_mv rfl) ?_
                refine l_x rfl (x_eql rfl rfl) ?_
                refine l_x rfl (x_pick_t rfl rfl) ?_
                refine l_x rfl (x_mv rfl) ?_
                refine l_splitd (d := 72) rfl (fun hg72 => ?_) (fun hg72 => ?_)
                · skip
                  refine l_x rfl (x_mv rfl) ?_
                  refine l_x rfl (x_eql rfl rfl) ?_
                  refine l_x rfl (x_pick_t rfl rfl) ?_
                  refine l_x rfl (x_mv rfl) ?_
                  refine l_splitd (d := 76) rfl (fun hg76 => ?_) (fun hg76 => ?_)
                  · skip
                    refine l_x rfl (x_mv rfl) ?_
                    refine l_x rfl (x_mv rfl) ?_
                    refine l_call [] [] [_, _] rfl rfl Try.call46 rfl (c_has _ _ _ (by omega) _ (vec_rd (S46.at 5 rfl))) ?_
                    rintro _ w48 ⟨rfl, hl50⟩
                    have S49 := S46.step hl50
                    refine l_x rfl (x_mv rfl) ?_
                    refine l_splitd (d := 80) rfl (fun hg80 => ?_) (fun hg80 => ?_)
                    · skip
                      refine l_pass rfl ?_
                      refine l_x rfl (x_pick_t rfl rfl) ?_
                      refine l_x rfl (x_pick_t rfl rfl) ?_
                      refine l_x rfl (x_as rfl) ?_
                      refine l_nil ?_
                      refine r_ret (rs := [.tmp 6]) [_] Try.func9 rfl ⟨rfl, trivial⟩ ?_
                      exact ⟨rfl, S49.le⟩
                    · exact (ChkOR.no hR6436 (wot_valid hV) (lift1 hV hr1 hO hg80)).elim
                  · skip
                    refine l_pass rfl ?_
                    refine l_pass rfl ?_
                    refine l_pass rfl ?_
                    refine l_pass rfl ?_
                    refine l_pass rfl ?_
                    refine l_pass rfl ?_
                    refine l_x rfl (x_pick_f rfl rfl) ?_
                    refine l_x rfl (x_as rfl) ?_
                    refine l_nil ?_
                    refine r_ret (rs := [.tmp 6]) [_] Try.func9 rfl ⟨rfl, trivial⟩ ?_
                    exact ⟨congrArg Value.bool (by exfalso; omega), S46.le⟩
                · skip
                  refine l_pass rfl ?_
                  refine l_pass rfl ?_
                  refine l_x rfl (x_pick_f rfl rfl) ?_
                  refine l_x rfl (x_mv rfl) ?_
                  refine l_pass rfl ?_
                  refine l_pass rfl ?_
                  refine l_pass rfl ?_
                  refine l_pass rfl ?_
                  refine l_pass rfl ?_
                  refine l_pass rfl ?_
                  refine l_x rfl (x_pick_f rfl rfl) ?_
                  refine l_x rfl (x_as rfl) ?_
                  refine l_nil ?_
                  refine r_ret (rs := [.tmp 6]) [_] Try.func9 rfl ⟨rfl, trivial⟩ ?_
                  exact ⟨congrArg Value.bool (by exfalso; omega), S46.le⟩
          · skip
            have S51 := S23.add hl4825 hN4825
            obtain ⟨hf0, y0, hcy⟩ := hR4825.isF hV
            refine l_x rfl (x_mv rfl) ?_
            refine l_x rfl (x_extract rfl rfl) ?_
            refine l_x rfl (x_extract rfl rfl) ?_
            refine l_x rfl (x_extract rfl rfl) ?_
            refine l_alloc S51 rfl Try.zeroValue43 rfl ?_
            intro b55 w52 S53 hl54
            refine l_stores (vs := [_, _]) S53 4 rfl rfl rfl rfl (ones_cons rfl (ones_cons (Rd.one (vec_rd (S53.at 3 rfl))) ones_nil)) Try.sizeOf43 (by first | exact Nat.le_refl _ | simp) (splice_all rfl) ?_
            intro w56 S57 hk58
            refine l_x rfl (x_as rfl) ?_
            refine l_x rfl (x_as rfl) ?_
            refine l_nil ?_
            refine r_seq ?_
            refine r_seq ?_
            refine r_region ?_
            refine l_x rfl (x_mv rfl) ?_
            refine l_x rfl (x_neq rfl rfl) ?_
            refine l_nil ?_
            refine r_ifd rfl (fun hc53 => ?_) (fun hc53 => ?_)
            · skip
              refine r_seq ?_
              refine r_region ?_
              refine l_x rfl (x_as rfl) ?_
              refine l_nil ?_
              refine r_ret (rs := [.tmp 6]) [_] Try.func9 rfl ⟨rfl, trivial⟩ ?_
              exact ⟨congrArg Value.bool (by exfalso; omega), S57.le⟩
            · skip
              refine r_skip ?_
              refine r_seq ?_
              refine r_seq ?_
              refine r_region ?_
              refine l_x rfl (x_mv rfl) ?_
              refine l_nil ?_
              refine r_false rfl ?_
              refine r_skip ?_
              refine r_seq ?_
              have S59 := S57.pick (L' := [_, _, _]) [0, 1, 2] (by decide) rfl
              refine r_forget [(1, vw), (2, .int .i64 r), (3, .pointer (some ⟨b4, 0, none⟩)), (7, .pointer (some ⟨b19, 0, none⟩))] ⟨rfl, rfl, rfl, rfl, trivial⟩ ?_
              intro ρ60
              refine r_region ?_
              refine l_x rfl (x_load rfl (ld_blks (S59.blk 0 rfl) Try.isAgg24 Try.sizeOf24 rfl rfl)) ?_
              refine l_x rfl (x_mv rfl) ?_
              refine l_call [] [] [_, _] rfl rfl Try.call22 rfl (c_Greatest _ _ _ _ _ (by first | omega | (rw [unit_length]; omega) | (rw [List.length_map]; omega) | decide) _ (hA.le S59.le) (Hwl.le S59.le)) ?_
              rintro _ w61 ⟨n8761, vx8761, x8761, vp8761, p8761, e8761, rfl, hO8761, hR8761⟩
              have S62 := S59.join hO8761
              have hRG := hR8761
              have hln := hR8761.len
              refine l_x rfl (x_mv rfl) ?_
              refine l_x rfl (x_extract rfl rfl) ?_
              refine l_x rfl (x_extract rfl rfl) ?_
              refine l_x rfl (x_extract rfl rfl) ?_
              refine l_x rfl (x_extract rfl rfl) ?_
              refine l_x rfl (x_as rfl) ?_
              refine l_x rfl (x_as rfl) ?_
              refine l_x rfl (x_as rfl) ?_
              refine l_x rfl (x_as rfl) ?_
              refine l_nil ?_
              refine r_seq ?_
              refine r_seq ?_
              refine r_region ?_
              refine l_x rfl (x_mv rfl) ?_
              refine l_x rfl (x_neq rfl rfl) ?_
              refine l_nil ?_
              refine r_ifd rfl (fun hc93 => ?_) (fun hc93 => ?_)
              · skip
                refine r_seq ?_
                have h1 := GrR.arg hRG hV hcy hc93
                refine r_region ?_
                refine l_call [] [] [] rfl rfl Try.call19 rfl (c_flowing _) ?_
                rintro _ w63 ⟨rfl, hl65⟩
                have S64 := S62.step hl65
                refine l_x rfl (x_mv rfl) ?_
                refine l_x rfl (x_mv rfl) ?_
                refine l_x rfl (x_eql rfl rfl) ?_
                refine l_x rfl (x_pick_t rfl rfl) ?_
                refine l_x rfl (x_as rfl) ?_
                refine l_nil ?_
                refine r_ret (rs := [.tmp 6]) [_] Try.func9 rfl ⟨rfl, trivial⟩ ?_
                exact ⟨congrArg Value.bool (decide_eq_true (by omega)), S64.le⟩
              · skip
                have he0 := Decidable.not_not.1 hc93
                obtain ⟨_, hw0, ho, hno⟩ := GrR.opt hRG he0
                have hra : askd N arcs (row wl arcs.length (-1000) 1000 && row p8761 N (-10000000) 10000000) = 0 := askd_zero.2 ⟨hV, by rw [Bool.and_eq_true]; exact ⟨row_wts.2 hw0, row_pts.2 ho.pts⟩⟩
                refine r_skip ?_
                refine r_seq ?_
                refine r_region ?_
                refine l_x rfl (x_load rfl (ld_blks (S62.blk 0 rfl) Try.isAgg24 Try.sizeOf24 rfl rfl)) ?_
                refine l_x rfl (x_mv rfl) ?_
                refine l_x rfl (x_mv rfl) ?_
                refine l_call [] [] [_, _, _] rfl rfl Try.call40 rfl (c_Records _ _ _ _ _ _ _ (by first | omega | (rw [unit_length]; omega) | (rw [List.length_map]; omega) | decide) (by first | omega | (rw [unit_length]; omega) | (rw [List.length_map]; omega) | decide) _ (hA.le S62.le) (Hwl.le S62.le) (vec_rd (S62.at 4 rfl))) ?_
                rintro _ w66 ⟨s10366, rfl, hN10366, hl10366⟩
                rw [if_pos hra] at hN10366
                have S67 := S62.add hl10366 hN10366
                refine l_x rfl (x_mv rfl) ?_
                refine l_x rfl (x_extract rfl rfl) ?_
                refine l_x rfl (x_extract rfl rfl) ?_
                refine l_x rfl (x_as rfl) ?_
                refine l_x rfl (x_as rfl) ?_
                refine l_nil ?_
                refine r_seq ?_
                refine r_seq ?_
                refine r_region ?_
                refine l_x rfl (x_mv rfl) ?_
                refine l_x rfl (x_neq rfl rfl) ?_
                refine l_nil ?_
                refine r_ifd rfl (fun hc107 => ?_) (fun hc107 => ?_)
                · skip
                  refine r_seq ?_
                  refine r_region ?_
                  refine l_x rfl (x_as rfl) ?_
                  refine l_nil ?_
                  refine r_ret (rs := [.tmp 6]) [_] Try.func9 rfl ⟨rfl, trivial⟩ ?_
                  exact ⟨congrArg Value.bool (by exfalso; omega), S67.le⟩
                · skip
                  refine r_skip ?_
                  refine r_seq ?_
                  refine r_seq ?_
                  have hol := lst_len (recs (told p8761 arcs wl))
                  have hol2 := recs_len (told p8761 arcs wl)
                  have hol3 := told_len (p := p8761) arcs wl
                  refine r_region ?_
                  refine l_x rfl (x_mv rfl) ?_
                  refine l_x rfl (x_mv rfl) ?_
                  refine l_call [] [] [_, _] rfl rfl Try.call46 rfl (c_has _ _ _ (by omega) _ (vec_rd (S67.at 5 rfl))) ?_
                  rintro _ w68 ⟨rfl, hl70⟩
                  have S69 := S67.step hl70
                  refine l_nil ?_
                  refine r_ifd rfl (fun hc110 => ?_) (fun hc110 => ?_)
                  · skip
                    refine r_seq ?_
                    refine r_region ?_
                    refine l_call [] [] [] rfl rfl Try.call19 rfl (c_flowing _) ?_
                    rintro _ w71 ⟨rfl, hl73⟩
                    have S72 := S69.step hl73
                    refine l_x rfl (x_as rfl) ?_
                    refine l_nil ?_
                    refine r_ret (rs := [.tmp 6]) [_] Try.func9 rfl ⟨rfl, trivial⟩ ?_
                    exact ⟨rfl, S72.le⟩
                  · skip
                    refine r_skip ?_
                    refine r_seq ?_
                    refine r_region ?_
                    refine l_x rfl (x_load rfl (ld_blks (S69.blk 2 rfl) Try.isAgg24 Try.sizeOf24 rfl rfl)) ?_
                    refine l_x rfl (x_mv rfl) ?_
                    refine l_x rfl (x_mv rfl) ?_
                    refine l_call [] [] [_, _, _] rfl rfl Try.call34 rfl (c_BoundR _ _ _ _ _ _ _ (by first | omega | (rw [unit_length]; omega) | (rw [List.length_map]; omega) | decide) (by first | omega | (rw [unit_length]; omega) | (rw [List.length_map]; omega) | decide) _ (vec_rd (S69.at 1 rfl)) (Hwl.le S69.le) (vec_rd (S69.at 4 rfl))) ?_
                    rintro _ w74 ⟨k11674, e11674, rfl, hl11674, hR11674⟩
                    have S75 := S69.step hl11674
                    have hRB := hR11674
                    refine l_x rfl (x_mv rfl) ?_
                    refine l_x rfl (x_extract rfl rfl) ?_
                    refine l_x rfl (x_extract rfl rfl) ?_
                    refine l_x rfl (x_as rfl) ?_
                    refine l_x rfl (x_as rfl) ?_
                    refine l_nil ?_
                    refine r_seq ?_
                    refine r_region ?_
                    refine l_x rfl (x_load rfl (ld_blks (S75.blk 2 rfl) Try.isAgg24 Try.sizeOf24 rfl rfl)) ?_
                    refine l_x rfl (x_mv rfl) ?_
                    refine l_call [] [] [_, _] rfl rfl Try.call22 rfl (c_Greatest _ _ _ _ _ (by first | omega | (rw [unit_length]; omega) | (rw [List.length_map]; omega) | decide) _ (vec_rd (S75.at 1 rfl)) (Hwl.le S75.le)) ?_
                    rintro _ w76 ⟨n12276, vx12276, x12276, vp12276, p12276, e12276, rfl, hO12276, hR12276⟩
                    have S77 := S75.join hO12276
                    have hb12276 := hR12276.bd
                    have hRH := hR12276
                    refine l_x rfl (x_mv rfl) ?_
                    refine l_x rfl (x_extract rfl rfl) ?_
                    refine l_x rfl (x_extract rfl rfl) ?_
                    refine l_x rfl (x_extract rfl rfl) ?_
                    refine l_x rfl (x_extract rfl rfl) ?_
                    refine l_x rfl (x_as rfl) ?_
                    refine l_x rfl (x_as rfl) ?_
                    refine l_x rfl (x_as rfl) ?_
                    refine l_x rfl (x_as rfl) ?_
                    refine l_nil ?_
                    refine r_seq ?_
                    have hLf := lift2 hr1 hRG he0 hc110 hRB hRH
                    refine r_region ?_
                    refine l_call [] [] [] rfl rfl Try.call19 rfl (c_flowing _) ?_
                    rintro _ w78 ⟨rfl, hl80⟩
                    have S79 := S77.step hl80
                    refine l_x rfl (x_mv rfl) ?_
                    refine l_x rfl (x_mv rfl) ?_
                    refine l_x rfl (x_eql rfl rfl) ?_
                    refine l_x rfl (x_pick_t rfl rfl) ?_
                    refine l_x rfl (x_mv rfl) ?_
                    refine l_splitd (d := 132) rfl (fun hg132 => ?_) (fun hg132 => ?_)
                    · skip
                      refine l_x rfl (x_mv rfl) ?_
                      refine l_x rfl (x_eql rfl rfl) ?_
                      refine l_x rfl (x_pick_t rfl rfl) ?_
                      refine l_x rfl (x_mv rfl) ?_
                      refine l_splitd (d := 136) rfl (fun hg136 => ?_) (fun hg136 => ?_)
                      · skip
                        refine l_x rfl (x_mv rfl) ?_
                        refine l_x rfl (x_mv rfl) ?_
                        refine l_x rfl (x_eql rfl rfl) ?_
                        refine l_x rfl (x_pick_t rfl rfl) ?_
                        refine l_x rfl (x_mv rfl) ?_
                        refine l_splitd (d := 141) rfl (fun hg141 => ?_) (fun hg141 => ?_)
                        · skip
                          refine l_x rfl (x_mv rfl) ?_
                          refine l_x rfl (x_mv rfl) ?_
                          refine l_x rfl (x_eql rfl rfl) ?_
                          refine l_x rfl (x_pick_t rfl rfl) ?_
                          refine l_x rfl (x_as rfl) ?_
                          refine l_nil ?_
                          refine r_ret (rs := [.tmp 6]) [_] Try.func9 rfl ⟨rfl, trivial⟩ ?_
                          exact ⟨congrArg Value.bool (decide_eq_true (by omega)), S79.le⟩
                        · skip
                          refine l_pass rfl ?_
                          refine l_pass rfl ?_
                          refine l_pass rfl ?_
                          refine l_x rfl (x_pick_f rfl rfl) ?_
                          refine l_x rfl (x_as rfl) ?_
                          refine l_nil ?_
                          refine r_ret (rs := [.tmp 6]) [_] Try.func9 rfl ⟨rfl, trivial⟩ ?_
                          exact ⟨congrArg Value.bool (by exfalso; omega), S79.le⟩
                      · skip
                        refine l_pass rfl ?_
                        refine l_pass rfl ?_
                        refine l_pass rfl ?_
                        refine l_x rfl (x_pick_f rfl rfl) ?_
                        refine l_x rfl (x_mv rfl) ?_
                        refine l_pass rfl ?_
                        refine l_pass rfl ?_
                        refine l_pass rfl ?_
                        refine l_x rfl (x_pick_f rfl rfl) ?_
                        refine l_x rfl (x_as rfl) ?_
                        refine l_nil ?_
                        refine r_ret (rs := [.tmp 6]) [_] Try.func9 rfl ⟨rfl, trivial⟩ ?_
                        exact ⟨congrArg Value.bool (by exfalso; omega), S79.le⟩
                    · skip
                      refine l_pass rfl ?_
                      refine l_pass rfl ?_
                      refine l_x rfl (x_pick_f rfl rfl) ?_
                      refine l_x rfl (x_mv rfl) ?_
                      refine l_pass rfl ?_
                      refine l_pass rfl ?_
                      refine l_pass rfl ?_
                      refine l_x rfl (x_pick_f rfl rfl) ?_
                      refine l_x rfl (x_mv rfl) ?_
                      refine l_pass rfl ?_
                      refine l_pass rfl ?_
                      refine l_pass rfl ?_
                      refine l_x rfl (x_pick_f rfl rfl) ?_
                      refine l_x rfl (x_as rfl) ?_
                      refine l_nil ?_
                      refine r_ret (rs := [.tmp 6]) [_] Try.func9 rfl ⟨rfl, trivial⟩ ?_
                      exact ⟨congrArg Value.bool (by exfalso; omega), S79.le⟩
      · skip
        have S81 := S6.add hl4014 hN4014
        refine l_x rfl (x_mv rfl) ?_
        refine l_x rfl (x_extract rfl rfl) ?_
        refine l_x rfl (x_extract rfl rfl) ?_
        refine l_alloc S81 rfl Try.zeroValue24 rfl ?_
        intro b85 w82 S83 hl84
        refine l_stores (vs := [_, _]) S83 2 rfl rfl rfl rfl (ones_cons rfl (ones_cons (Rd.one (vec_rd (S83.at 1 rfl))) ones_nil)) Try.sizeOf24 (by first | exact Nat.le_refl _ | simp) (splice_all rfl) ?_
        intro w86 S87 hk88
        refine l_x rfl (x_as rfl) ?_
        refine l_nil ?_
        refine r_seq ?_
        refine r_seq ?_
        refine r_region ?_
        refine l_x rfl (x_mv rfl) ?_
        refine l_x rfl (x_neq rfl rfl) ?_
        refine l_nil ?_
        refine r_ifd rfl (fun hc44 => ?_) (fun hc44 => ?_)
        · skip
          refine r_seq ?_
          refine r_region ?_
          refine l_call [] [] [] rfl rfl Try.call19 rfl (c_flowing _) ?_
          rintro _ w89 ⟨rfl, hl91⟩
          have S90 := S87.step hl91
          refine l_x rfl (x_as rfl) ?_
          refine l_nil ?_
          refine r_ret (rs := [.tmp 6]) [_] Try.func9 rfl ⟨rfl, trivial⟩ ?_
          exact ⟨rfl, S90.le⟩
        · exact absurd (Decidable.not_not.1 hc44) hn04014

end Go.Proofs

/-
  The statement of FlowLifted: for every input the law returns true, and its arguments read as they did. No condition.
-/
namespace Go.Proofs
open Go Go.Vk Go.Vk.Flow

open Go.ChangeShapes Go.WideShapes Go.RowKit Go.Joins
namespace Ytddapgjjndbejaa
set_option maxRecDepth 100000 in
theorem liftedLifted (os : Os) (started : os.Started) (H : Type) (enc : TypeId × Value → H) :
    ReturnsInHanded {} Try.checked os 9 .any (Rows.flowLiftedSpec.pre6 enc Try.prog Try.f9 Rows.flowLiftedRow.domain false) (Rows.flowLiftedSpec.post enc Try.prog Try.f9 false true false false) := by
  refine returnsInHanded_of_change (C := Try.checked) ownT started (by kernel_rfl) Try.func9
    (ChangeSpec.witness6 (enc := enc) (C := Try.checked) false ⟨#[], #[.agg #[.int .i64 0, .slice none 0 0], .slice none 0 0, .int .i64 0], []⟩ 8 (by kernel_rfl) (by kernel_rfl) (by kernel_rfl) (by kernel_rfl)) ?_
  intro W base args ds gs before hval0 hW hcnd _
  have hval : ∀ (j : Nat) t v, Try.f9.params[j]? = some t → args[j]? = some v → Value.okWide Try.prog W .any base t v := hval0
  have hW' := hW
  obtain ⟨p, q, hA0, hV, rfl, hfz, hnd⟩ := hW
  have hA : DataW.TrodAll enc Try.prog W 0 (fun _ => true) true Try.f9.params.toList args.toList ds p := hA0
  rw [Try.params9] at hA hval
  obtain ⟨v0, vs0, d0, ds0, p0, q0, hargs, rfl, rfl, h0, r0⟩ := trodAll_cons hA
  obtain ⟨v1, vs1, d1, ds1, p1, q1, rfl, rfl, rfl, h1, r1⟩ := trodAll_cons r0
  obtain ⟨v2, vs2, d2, ds2, p2, q2, rfl, rfl, rfl, h2, r2⟩ := trodAll_cons r1
  obtain ⟨rfl, rfl, rfl⟩ := trodAll_nil r2
  obtain rfl : args = #[v0, v1, v2] := by cases args; simp_all
  obtain ⟨rfl, rfl⟩ := trodVars_none hV
  obtain ⟨N0, va0, arcs0, rfl, hQ0, hm0⟩ := openNet (hval 0 24 v0 rfl rfl) h0
  obtain ⟨l1, hQ1, hm1⟩ := openInts (hval 1 25 v1 rfl rfl) h1
  obtain ⟨i2, rfl, rfl, rfl, w2⟩ := open_int Try.underlying3 (hval 2 3 v2 rfl rfl) h2
  clear hA0 hval0
  exact (lawLifted N0 va0 arcs0 _ l1 i2 W hQ0 hQ1).mono fun v W' ⟨hv, hle⟩ => by
    subst hv
    exact post_law hW' laidT (by rw [Try.params9]; exact fun t ht => by revert t; decide +kernel) (by kernel_rfl) Try.underlying4 rfl rfl rfl rfl hle
/-- FlowLifted: whatever the input, the law returns true, and its arguments read as they did. -/
theorem flowLifted : Rows.FlowLiftedSaid :=
  OpenClaim.holds_of_wide 9 Try.f9 rfl rfl rfl rfl rfl rfl rfl ⟨rfl, rfl, rfl, rfl, rfl⟩ rfl rfl rfl rfl rfl (by kernel_rfl) Try.func9 (by kernel_rfl)
    (of_decide_eq_true (by kernel_rfl)) (by unfold Func.isWrapper; rw [if_neg (of_decide_eq_false (by kernel_rfl))]; exact ⟨rfl, rfl⟩)
    (fun os started H enc _ => liftedLifted os started H enc)
#print axioms flowLifted
end Ytddapgjjndbejaa

end Go.Proofs
