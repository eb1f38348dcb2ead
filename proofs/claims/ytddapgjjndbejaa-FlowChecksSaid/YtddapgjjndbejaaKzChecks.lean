/-
  The statement of FlowChecks: for every input the law returns true, and its arguments read as they did. No condition.
-/
import Derived.Test.YtddapgjjndbejaaKg
import Derived.Test.YtddapgjjndbejaaKi
/-
  Contracts of functions of the program: each by symbolic execution of its text.
-/
namespace Go.Proofs
open Go Go.Vk Go.Vk.Flow

set_option maxHeartbeats 4000000 in
/-- couchant/couchantlaw06.FlowChecks. -/
theorem lawChecks (N : Int) (va : Value) (arcs : List Arc) (vx : Value) (x : List Int) (vw : Value) (wl : List Int) (vp : Value) (p : List Int) (w : World) (hA : Rd EA w va arcs) (Hx : Rd EI w vx x) (Hwl : Rd EI w vw wl) (Hp : Rd EI w vp p) :
    Cl Try.prog 6 #[.agg #[.int .i64 N, va], vx, vw, vp] w fun v w' => v = .bool true ∧ Le w w' := by
  refine fn_of_run (args := [_, _, _, _]) 166 Try.func6 rfl rfl rfl fun cs => ?_
  have S := Own.start (X := nob) w
  refine r_seq ?_
  refine r_region ?_
  refine l_box S rfl rfl ?_
  intro b4 w1 S2 hl3
  refine l_x rfl (x_as rfl) ?_
  refine l_nil ?_
  refine r_seq ?_
  refine r_seq ?_
  refine r_region ?_
  refine l_x rfl (x_load rfl (ld_blks (S2.blk 0 rfl) Try.isAgg24 Try.sizeOf24 rfl rfl)) ?_
  refine l_call [] [] [_] rfl rfl Try.call18 rfl (c_small _ _ _ _ (hA.le S2.le)) ?_
  rintro _ w5 ⟨rfl, hl7⟩
  have S6 := S2.step hl7
  refine l_x rfl (x_not rfl) ?_
  refine l_x rfl (x_mv rfl) ?_
  refine l_split (d := 32) rfl (fun hg32 => ?_) (fun hg32 => ?_)
  · skip
    refine l_pass rfl ?_
    refine l_pass rfl ?_
    refine l_pass rfl ?_
    refine l_pass rfl ?_
    refine l_pass rfl ?_
    refine l_x rfl (x_pick_t rfl rfl) ?_
    refine l_nil ?_
    refine r_true rfl ?_
    refine r_seq ?_
    refine r_region ?_
    refine l_call [] [] [] rfl rfl Try.call19 rfl (c_flowing _) ?_
    rintro _ w8 ⟨rfl, hl10⟩
    have S9 := S6.step hl10
    refine l_x rfl (x_as rfl) ?_
    refine l_nil ?_
    refine r_ret (rs := [.tmp 8]) [_] Try.func6 rfl ⟨rfl, trivial⟩ ?_
    exact ⟨rfl, S9.le⟩
  · skip
    refine l_x rfl (x_mv rfl) ?_
    refine l_x rfl (x_mv rfl) ?_
    refine l_x rfl (x_mv rfl) ?_
    refine l_call [] [] [_, _, _] rfl rfl Try.call30 rfl (c_short _ _ _ _ _ _ _ (Hx.le S6.le) (Hwl.le S6.le) (Hp.le S6.le)) ?_
    rintro _ w11 ⟨rfl, hl13⟩
    have S12 := S6.step hl13
    refine l_x rfl (x_notd rfl) ?_
    refine l_x rfl (x_pick_f rfl rfl) ?_
    refine l_nil ?_
    refine r_ifd rfl (fun hc38 => ?_) (fun hc38 => ?_)
    · skip
      refine r_seq ?_
      refine r_region ?_
      refine l_call [] [] [] rfl rfl Try.call19 rfl (c_flowing _) ?_
      rintro _ w14 ⟨rfl, hl16⟩
      have S15 := S12.step hl16
      refine l_x rfl (x_as rfl) ?_
      refine l_nil ?_
      refine r_ret (rs := [.tmp 8]) [_] Try.func6 rfl ⟨rfl, trivial⟩ ?_
      exact ⟨rfl, S15.le⟩
    · skip
      refine r_skip ?_
      refine r_seq ?_
      refine r_region ?_
      refine l_x rfl (x_load rfl (ld_blks (S12.blk 0 rfl) Try.isAgg24 Try.sizeOf24 rfl rfl)) ?_
      refine l_x rfl (x_mv rfl) ?_
      refine l_call [] [] [_, _] rfl rfl Try.call21 rfl (c_KeptR _ _ _ _ _ (by first | omega | (rw [unit_length]; omega) | (rw [List.length_map]; omega) | decide) _ (hA.le S12.le) (Hx.le S12.le)) ?_
      rintro _ w17 ⟨k4317, e4317, rfl, hl4317, hR4317⟩
      have S18 := S12.step hl4317
      have hRK := hR4317
      refine l_x rfl (x_mv rfl) ?_
      refine l_x rfl (x_extract rfl rfl) ?_
      refine l_x rfl (x_extract rfl rfl) ?_
      refine l_x rfl (x_as rfl) ?_
      refine l_x rfl (x_as rfl) ?_
      refine l_nil ?_
      refine r_seq ?_
      refine r_region ?_
      refine l_x rfl (x_load rfl (ld_blks (S18.blk 0 rfl) Try.isAgg24 Try.sizeOf24 rfl rfl)) ?_
      refine l_x rfl (x_mv rfl) ?_
      refine l_call [] [] [_, _] rfl rfl Try.call31 rfl (c_rKept _ _ _ _ _ (by first | omega | (rw [unit_length]; omega) | (rw [List.length_map]; omega) | decide) _ (hA.le S18.le) (Hx.le S18.le)) ?_
      rintro _ w19 ⟨k4919, e4919, rfl, hl4919, hR4919⟩
      have S20 := S18.step hl4919
      obtain ⟨rfl, rfl⟩ := KeptR.same hRK hR4919
      refine l_x rfl (x_mv rfl) ?_
      refine l_x rfl (x_extract rfl rfl) ?_
      refine l_x rfl (x_extract rfl rfl) ?_
      refine l_x rfl (x_as rfl) ?_
      refine l_x rfl (x_as rfl) ?_
      refine l_nil ?_
      refine r_seq ?_
      have S21 := S20.pick (L' := [_]) [0] (by decide) rfl
      refine r_forget [(1, vx), (2, vw), (3, vp), (4, .pointer (some ⟨b4, 0, none⟩)), (9, .bool k4317), (10, .int .i64 e4317), (11, .bool k4317), (12, .int .i64 e4317)] ⟨rfl, rfl, rfl, rfl, rfl, rfl, rfl, rfl, trivial⟩ ?_
      intro ρ22
      refine r_region ?_
      refine l_x rfl (x_load rfl (ld_blks (S21.blk 0 rfl) Try.isAgg24 Try.sizeOf24 rfl rfl)) ?_
      refine l_x rfl (x_mv rfl) ?_
      refine l_x rfl (x_mv rfl) ?_
      refine l_call [] [] [_, _, _] rfl rfl Try.call32 rfl (c_SumR _ _ _ _ _ _ _ (by first | omega | (rw [unit_length]; omega) | (rw [List.length_map]; omega) | decide) (by first | omega | (rw [unit_length]; omega) | (rw [List.length_map]; omega) | decide) _ (hA.le S21.le) (Hwl.le S21.le) (Hx.le S21.le)) ?_
      rintro _ w23 ⟨k5623, e5623, rfl, hl5623, hR5623⟩
      have S24 := S21.step hl5623
      have hRS := hR5623
      refine l_x rfl (x_mv rfl) ?_
      refine l_x rfl (x_extract rfl rfl) ?_
      refine l_x rfl (x_extract rfl rfl) ?_
      refine l_x rfl (x_as rfl) ?_
      refine l_x rfl (x_as rfl) ?_
      refine l_nil ?_
      refine r_seq ?_
      refine r_region ?_
      refine l_x rfl (x_load rfl (ld_blks (S24.blk 0 rfl) Try.isAgg24 Try.sizeOf24 rfl rfl)) ?_
      refine l_x rfl (x_mv rfl) ?_
      refine l_x rfl (x_mv rfl) ?_
      refine l_call [] [] [_, _, _] rfl rfl Try.call33 rfl (c_rSum _ _ _ _ _ _ _ (by first | omega | (rw [unit_length]; omega) | (rw [List.length_map]; omega) | decide) (by first | omega | (rw [unit_length]; omega) | (rw [List.length_map]; omega) | decide) _ (hA.le S24.le) (Hwl.le S24.le) (Hx.le S24.le)) ?_
      rintro _ w25 ⟨k6325, e6325, rfl, hl6325, hR6325⟩
      have S26 := S24.step hl6325
      obtain ⟨rfl, rfl⟩ := SumR.same hRS hR6325
      refine l_x rfl (x_mv rfl) ?_
      refine l_x rfl (x_extract rfl rfl) ?_
      refine l_x rfl (x_extract rfl rfl) ?_
      refine l_x rfl (x_as rfl) ?_
      refine l_x rfl (x_as rfl) ?_
      refine l_nil ?_
      refine r_seq ?_
      have S27 := S26.pick (L' := [_]) [0] (by decide) rfl
      refine r_forget [(1, vx), (2, vw), (3, vp), (4, .pointer (some ⟨b4, 0, none⟩)), (9, .bool k4317), (10, .int .i64 e4317), (11, .bool k4317), (12, .int .i64 e4317), (13, .int .i64 k5623), (14, .int .i64 e5623), (15, .int .i64 k5623), (16, .int .i64 e5623)] ⟨rfl, rfl, rfl, rfl, rfl, rfl, rfl, rfl, rfl, rfl, rfl, rfl, trivial⟩ ?_
      intro ρ28
      refine r_region ?_
      refine l_x rfl (x_load rfl (ld_blks (S27.blk 0 rfl) Try.isAgg24 Try.sizeOf24 rfl rfl)) ?_
      refine l_x rfl (x_mv rfl) ?_
      refine l_x rfl (x_mv rfl) ?_
      refine l_call [] [] [_, _, _] rfl rfl Try.call34 rfl (c_BoundR _ _ _ _ _ _ _ (by first | omega | (rw [unit_length]; omega) | (rw [List.length_map]; omega) | decide) (by first | omega | (rw [unit_length]; omega) | (rw [List.length_map]; omega) | decide) _ (hA.le S27.le) (Hwl.le S27.le) (Hp.le S27.le)) ?_
      rintro _ w29 ⟨k7029, e7029, rfl, hl7029, hR7029⟩
      have S30 := S27.step hl7029
      have hRB := hR7029
      refine l_x rfl (x_mv rfl) ?_
      refine l_x rfl (x_extract rfl rfl) ?_
      refine l_x rfl (x_extract rfl rfl) ?_
      refine l_x rfl (x_as rfl) ?_
      refine l_x rfl (x_as rfl) ?_
      refine l_nil ?_
      refine r_seq ?_
      refine r_region ?_
      refine l_x rfl (x_load rfl (ld_blks (S30.blk 0 rfl) Try.isAgg24 Try.sizeOf24 rfl rfl)) ?_
      refine l_x rfl (x_mv rfl) ?_
      refine l_x rfl (x_mv rfl) ?_
      refine l_call [] [] [_, _, _] rfl rfl Try.call35 rfl (c_rBound _ _ _ _ _ _ _ (by first | omega | (rw [unit_length]; omega) | (rw [List.length_map]; omega) | decide) (by first | omega | (rw [unit_length]; omega) | (rw [List.length_map]; omega) | decide) _ (hA.le S30.le) (Hwl.le S30.le) (Hp.le S30.le)) ?_
      rintro _ w31 ⟨k7731, e7731, rfl, hl7731, hR7731⟩
      have S32 := S30.step hl7731
      obtain ⟨rfl, rfl⟩ := BoundR.same hRB hR7731
      refine l_x rfl (x_mv rfl) ?_
      refine l_x rfl (x_extract rfl rfl) ?_
      refine l_x rfl (x_extract rfl rfl) ?_
      refine l_x rfl (x_as rfl) ?_
      refine l_x rfl (x_as rfl) ?_
      refine l_nil ?_
      refine r_seq ?_
      refine r_seq ?_
      have S33 := S32.pick (L' := [_]) [0] (by decide) rfl
      refine r_forget [(1, vx), (2, vw), (3, vp), (4, .pointer (some ⟨b4, 0, none⟩)), (9, .bool k4317), (10, .int .i64 e4317), (11, .bool k4317), (12, .int .i64 e4317), (13, .int .i64 k5623), (14, .int .i64 e5623), (15, .int .i64 k5623), (16, .int .i64 e5623), (17, .int .i64 k7029), (18, .int .i64 e7029), (19, .int .i64 k7029), (20, .int .i64 e7029)] ⟨rfl, rfl, rfl, rfl, rfl, rfl, rfl, rfl, rfl, rfl, rfl, rfl, rfl, rfl, rfl, rfl, trivial⟩ ?_
      intro ρ34
      refine r_drawR 35 Try.mixed (by kernel_rfl) ?_
      refine w_x rfl (fun w1 h1 => x_mv rfl) ?_
      refine w_x rfl (fun w1 h1 => x_mv rfl) ?_
      refine w_x rfl (fun w1 h1 => x_bne Try.runUnderlying4 rfl rfl) ?_
      refine w_x rfl (fun w1 h1 => x_mv rfl) ?_
      refine w_split (d := 83) rfl (fun hg83 => ?_) (fun hg83 => ?_)
      · simp at hg83
      · skip
        refine w_x rfl (fun w1 h1 => x_mv rfl) ?_
        refine w_x rfl (fun w1 h1 => x_mv rfl) ?_
        refine w_x rfl (fun w1 h1 => x_neq rfl rfl) ?_
        refine w_x rfl (fun w1 h1 => x_pick_f rfl rfl) ?_
        refine w_x rfl (fun w1 h1 => x_mv rfl) ?_
        refine w_splitd (d := 88) rfl (fun hg88 => ?_) (fun hg88 => ?_)
        · exact absurd rfl hg88
        · skip
          refine w_x rfl (fun w1 h1 => x_mv rfl) ?_
          refine w_x rfl (fun w1 h1 => x_mv rfl) ?_
          refine w_x rfl (fun w1 h1 => x_neq rfl rfl) ?_
          refine w_x rfl (fun w1 h1 => x_pick_f rfl rfl) ?_
          refine w_x rfl (fun w1 h1 => x_mv rfl) ?_
          refine w_splitd (d := 93) rfl (fun hg93 => ?_) (fun hg93 => ?_)
          · exact absurd rfl hg93
          · skip
            refine w_x rfl (fun w1 h1 => x_mv rfl) ?_
            refine w_x rfl (fun w1 h1 => x_mv rfl) ?_
            refine w_x rfl (fun w1 h1 => x_neq rfl rfl) ?_
            refine w_x rfl (fun w1 h1 => x_pick_f rfl rfl) ?_
            refine w_x rfl (fun w1 h1 => x_mv rfl) ?_
            refine w_splitd (d := 98) rfl (fun hg98 => ?_) (fun hg98 => ?_)
            · exact absurd rfl hg98
            · skip
              refine w_x rfl (fun w1 h1 => x_mv rfl) ?_
              refine w_x rfl (fun w1 h1 => x_mv rfl) ?_
              refine w_x rfl (fun w1 h1 => x_neq rfl rfl) ?_
              refine w_x rfl (fun w1 h1 => x_pick_f rfl rfl) ?_
              refine w_x rfl (fun w1 h1 => x_mv rfl) ?_
              refine w_splitd (d := 103) rfl (fun hg103 => ?_) (fun hg103 => ?_)
              · exact absurd rfl hg103
              · skip
                refine w_x rfl (fun w1 h1 => x_mv rfl) ?_
                refine w_x rfl (fun w1 h1 => x_mv rfl) ?_
                refine w_x rfl (fun w1 h1 => x_neq rfl rfl) ?_
                refine w_x rfl (fun w1 h1 => x_pick_f rfl rfl) ?_
                refine w_x rfl (fun w1 h1 => x_mv rfl) ?_
                refine w_splitd (d := 108) rfl (fun hg108 => ?_) (fun hg108 => ?_)
                · exact absurd rfl hg108
                · skip
                  refine w_x rfl (fun w1 h1 => x_load rfl (ld_blks ((S33.step h1).blk 0 rfl) Try.isAgg24 Try.sizeOf24 rfl rfl)) ?_
                  refine wd_call [] [] [_] rfl rfl Try.call36 rfl (fun w1 h1 => c_Check N va arcs _ (hA.le (S33.step h1).le)) ?_
                  refine w_x rfl (fun w1 h1 => x_load rfl (ld_blks ((S33.step h1).blk 0 rfl) Try.isAgg24 Try.sizeOf24 rfl rfl)) ?_
                  refine wd_call [] [] [_] rfl rfl Try.call37 rfl (fun w1 h1 => c_rCheck _ _ _ _ (hA.le (S33.step h1).le)) ?_
                  refine w_x rfl (fun w1 h1 => x_neq rfl rfl) ?_
                  refine w_x rfl (fun w1 h1 => x_pick_f rfl rfl) ?_
                  refine w_nil ?_
                  intro w35 hl36
                  have S37 := S33.step hl36
                  refine l_nil ?_
                  refine r_ifd rfl (fun hc114 => ?_) (fun hc114 => ?_)
                  · exact absurd rfl hc114
                  · skip
                    refine r_skip ?_
                    refine r_seq ?_
                    have S38 := S37.pick (L' := [_]) [0] (by decide) rfl
                    refine r_forget [(1, vx), (2, vw), (3, vp), (4, .pointer (some ⟨b4, 0, none⟩))] ⟨rfl, rfl, rfl, rfl, trivial⟩ ?_
                    intro ρ39
                    refine r_region ?_
                    refine l_x rfl (x_load rfl (ld_blks (S38.blk 0 rfl) Try.isAgg24 Try.sizeOf24 rfl rfl)) ?_
                    refine l_x rfl (x_mv rfl) ?_
                    refine l_x rfl (x_mv rfl) ?_
                    refine l_x rfl (x_mv rfl) ?_
                    refine l_call [] [] [_, _, _, _] rfl rfl Try.call38 rfl (c_CheckBestR _ _ _ _ _ _ _ _ _ (by first | omega | (rw [unit_length]; omega) | (rw [List.length_map]; omega) | decide) (by first | omega | (rw [unit_length]; omega) | (rw [List.length_map]; omega) | decide) (by first | omega | (rw [unit_length]; omega) | (rw [List.length_map]; omega) | decide) _ (hA.le S38.le) (Hwl.le S38.le) (Hx.le S38.le) (Hp.le S38.le)) ?_
                    rintro _ w40 ⟨k12040, e12040, rfl, hl12040, hR12040⟩
                    have S41 := S38.step hl12040
                    have hRC := hR12040
                    refine l_x rfl (x_mv rfl) ?_
                    refine l_x rfl (x_extract rfl rfl) ?_
                    refine l_x rfl (x_extract rfl rfl) ?_
                    refine l_x rfl (x_as rfl) ?_
                    refine l_x rfl (x_as rfl) ?_
                    refine l_nil ?_
                    refine r_seq ?_
                    refine r_region ?_
                    refine l_x rfl (x_load rfl (ld_blks (S41.blk 0 rfl) Try.isAgg24 Try.sizeOf24 rfl rfl)) ?_
                    refine l_x rfl (x_mv rfl) ?_
                    refine l_x rfl (x_mv rfl) ?_
                    refine l_x rfl (x_mv rfl) ?_
                    refine l_call [] [] [_, _, _, _] rfl rfl Try.call39 rfl (c_rCheckBest _ _ _ _ _ _ _ _ _ (by first | omega | (rw [unit_length]; omega) | (rw [List.length_map]; omega) | decide) (by first | omega | (rw [unit_length]; omega) | (rw [List.length_map]; omega) | decide) (by first | omega | (rw [unit_length]; omega) | (rw [List.length_map]; omega) | decide) _ (hA.le S41.le) (Hwl.le S41.le) (Hx.le S41.le) (Hp.le S41.le)) ?_
                    rintro _ w42 ⟨k12842, e12842, rfl, hl12842, hR12842⟩
                    have S43 := S41.step hl12842
                    obtain ⟨rfl, rfl⟩ := BestR.same hRC hR12842
                    refine l_x rfl (x_mv rfl) ?_
                    refine l_x rfl (x_extract rfl rfl) ?_
                    refine l_x rfl (x_extract rfl rfl) ?_
                    refine l_x rfl (x_as rfl) ?_
                    refine l_x rfl (x_as rfl) ?_
                    refine l_nil ?_
                    refine r_seq ?_
                    have S44 := S43.pick (L' := [_]) [0] (by decide) rfl
                    refine r_forget [(1, vx), (2, vw), (3, vp), (4, .pointer (some ⟨b4, 0, none⟩)), (21, .bool k12040), (22, .int .i64 e12040), (23, .bool k12040), (24, .int .i64 e12040)] ⟨rfl, rfl, rfl, rfl, rfl, rfl, rfl, rfl, trivial⟩ ?_
                    intro ρ45
                    refine r_region ?_
                    refine l_x rfl (x_load rfl (ld_blks (S44.blk 0 rfl) Try.isAgg24 Try.sizeOf24 rfl rfl)) ?_
                    refine l_x rfl (x_mv rfl) ?_
                    refine l_x rfl (x_mv rfl) ?_
                    refine l_call [] [] [_, _, _] rfl rfl Try.call40 rfl (c_Records _ _ _ _ _ _ _ (by first | omega | (rw [unit_length]; omega) | (rw [List.length_map]; omega) | decide) (by first | omega | (rw [unit_length]; omega) | (rw [List.length_map]; omega) | decide) _ (hA.le S44.le) (Hwl.le S44.le) (Hp.le S44.le)) ?_
                    rintro _ w46 ⟨s13546, rfl, hN13546, hl13546⟩
                    have S47 := S44.add hl13546 hN13546
                    refine l_x rfl (x_mv rfl) ?_
                    refine l_x rfl (x_extract rfl rfl) ?_
                    refine l_x rfl (x_extract rfl rfl) ?_
                    refine l_x rfl (x_as rfl) ?_
                    refine l_x rfl (x_as rfl) ?_
                    refine l_nil ?_
                    refine r_seq ?_
                    refine r_region ?_
                    refine l_x rfl (x_load rfl (ld_blks (S47.blk 0 rfl) Try.isAgg24 Try.sizeOf24 rfl rfl)) ?_
                    refine l_x rfl (x_mv rfl) ?_
                    refine l_x rfl (x_mv rfl) ?_
                    refine l_call [] [] [_, _, _] rfl rfl Try.call41 rfl (c_rRecords _ _ _ _ _ _ _ (by first | omega | (rw [unit_length]; omega) | (rw [List.length_map]; omega) | decide) (by first | omega | (rw [unit_length]; omega) | (rw [List.length_map]; omega) | decide) _ (hA.le S47.le) (Hwl.le S47.le) (Hp.le S47.le)) ?_
                    rintro _ w48 ⟨s14248, rfl, hN14248, hl14248⟩
                    have S49 := S47.add hl14248 hN14248
                    refine l_x rfl (x_mv rfl) ?_
                    refine l_x rfl (x_extract rfl rfl) ?_
                    refine l_x rfl (x_extract rfl rfl) ?_
                    refine l_x rfl (x_as rfl) ?_
                    refine l_x rfl (x_as rfl) ?_
                    refine l_nil ?_
                    refine r_seq ?_
                    have S50 := S49.pick (L' := [_, _, _]) [0, 1, 2] (by decide) rfl
                    refine r_forget [(1, vx), (2, vw), (3, vp), (4, .pointer (some ⟨b4, 0, none⟩)), (21, .bool k12040), (22, .int .i64 e12040), (23, .bool k12040), (24, .int .i64 e12040), (25, s13546), (26, .int .i64 (askd N arcs (row wl arcs.length (-1000) 1000 && row p N (-10000000) 10000000))), (27, s14248), (28, .int .i64 (askd N arcs (row wl arcs.length (-1000) 1000 && row p N (-10000000) 10000000)))] ⟨rfl, rfl, rfl, rfl, rfl, rfl, rfl, rfl, rfl, rfl, rfl, rfl, trivial⟩ ?_
                    intro ρ51
                    refine r_region ?_
                    refine l_call [] [] [] rfl rfl Try.call19 rfl (c_flowing _) ?_
                    rintro _ w52 ⟨rfl, hl54⟩
                    have S53 := S50.step hl54
                    refine l_x rfl (x_mv rfl) ?_
                    refine l_x rfl (x_mv rfl) ?_
                    refine l_x rfl (x_mv rfl) ?_
                    refine l_x rfl (x_beq Try.runUnderlying4 rfl rfl) ?_
                    refine l_x rfl (x_pick_t rfl rfl) ?_
                    refine l_x rfl (x_mv rfl) ?_
                    refine l_split (d := 151) rfl (fun hg151 => ?_) (fun hg151 => ?_)
                    · skip
                      refine l_x rfl (x_mv rfl) ?_
                      refine l_x rfl (x_mv rfl) ?_
                      refine l_x rfl (x_eql rfl rfl) ?_
                      refine l_x rfl (x_pick_t rfl rfl) ?_
                      refine l_x rfl (x_mv rfl) ?_
                      refine l_splitd (d := 156) rfl (fun hg156 => ?_) (fun hg156 => ?_)
                      · skip
                        refine l_x rfl (x_mv rfl) ?_
                        refine l_x rfl (x_mv rfl) ?_
                        refine l_x rfl (x_eql rfl rfl) ?_
                        refine l_x rfl (x_pick_t rfl rfl) ?_
                        refine l_x rfl (x_mv rfl) ?_
                        refine l_splitd (d := 161) rfl (fun hg161 => ?_) (fun hg161 => ?_)
                        · skip
                          refine l_x rfl (x_mv rfl) ?_
                          refine l_x rfl (x_mv rfl) ?_
                          refine l_call [] [] [_, _] rfl rfl Try.call29 rfl (c_SameInts _ _ _ _ (by have := recs_if_len (N := N) (arcs := arcs) (w := wl) (p := p) (row wl arcs.length (-1000) 1000 && row p N (-10000000) 10000000); omega) _ (vec_rd (S53.at 1 rfl)) (vec_rd (S53.at 2 rfl))) ?_
                          rintro _ w55 ⟨rfl, hl57⟩
                          have S56 := S53.step hl57
                          refine l_x rfl (x_pick_t rfl rfl) ?_
                          refine l_x rfl (x_as rfl) ?_
                          refine l_nil ?_
                          refine r_ret (rs := [.tmp 8]) [_] Try.func6 rfl ⟨rfl, trivial⟩ ?_
                          exact ⟨congrArg Value.bool (decide_eq_true (by rfl)), S56.le⟩
                        · exact absurd rfl hg161
                      · exact absurd rfl hg156
                    · simp at hg151

end Go.Proofs

/-
  The statement of FlowChecks: for every input the law returns true, and its arguments read as they did. No condition.
-/
namespace Go.Proofs
open Go Go.Vk Go.Vk.Flow

open Go.ChangeShapes Go.WideShapes Go.RowKit Go.Joins
namespace Ytddapgjjndbejaa
set_option maxRecDepth 100000 in
theorem liftedChecks (os : Os) (started : os.Started) (H : Type) (enc : TypeId × Value → H) :
    ReturnsInHanded {} Try.checked os 6 .any (Rows.flowChecksSpec.pre6 enc Try.prog Try.f6 Rows.flowChecksRow.domain false) (Rows.flowChecksSpec.post enc Try.prog Try.f6 false true false false) := by
  refine returnsInHanded_of_change (C := Try.checked) ownT started (by kernel_rfl) Try.func6
    (ChangeSpec.witness6 (enc := enc) (C := Try.checked) false ⟨#[], #[.agg #[.int .i64 0, .slice none 0 0], .slice none 0 0, .slice none 0 0, .slice none 0 0], []⟩ 8 (by kernel_rfl) (by kernel_rfl) (by kernel_rfl) (by kernel_rfl)) ?_
  intro W base args ds gs before hval0 hW hcnd _
  have hval : ∀ (j : Nat) t v, Try.f6.params[j]? = some t → args[j]? = some v → Value.okWide Try.prog W .any base t v := hval0
  have hW' := hW
  obtain ⟨p, q, hA0, hV, rfl, hfz, hnd⟩ := hW
  have hA : DataW.TrodAll enc Try.prog W 0 (fun _ => true) true Try.f6.params.toList args.toList ds p := hA0
  rw [Try.params6] at hA hval
  obtain ⟨v0, vs0, d0, ds0, p0, q0, hargs, rfl, rfl, h0, r0⟩ := trodAll_cons hA
  obtain ⟨v1, vs1, d1, ds1, p1, q1, rfl, rfl, rfl, h1, r1⟩ := trodAll_cons r0
  obtain ⟨v2, vs2, d2, ds2, p2, q2, rfl, rfl, rfl, h2, r2⟩ := trodAll_cons r1
  obtain ⟨v3, vs3, d3, ds3, p3, q3, rfl, rfl, rfl, h3, r3⟩ := trodAll_cons r2
  obtain ⟨rfl, rfl, rfl⟩ := trodAll_nil r3
  obtain rfl : args = #[v0, v1, v2, v3] := by cases args; simp_all
  obtain ⟨rfl, rfl⟩ := trodVars_none hV
  obtain ⟨N0, va0, arcs0, rfl, hQ0, hm0⟩ := openNet (hval 0 24 v0 rfl rfl) h0
  obtain ⟨l1, hQ1, hm1⟩ := openInts (hval 1 25 v1 rfl rfl) h1
  obtain ⟨l2, hQ2, hm2⟩ := openInts (hval 2 25 v2 rfl rfl) h2
  obtain ⟨l3, hQ3, hm3⟩ := openInts (hval 3 25 v3 rfl rfl) h3
  clear hA0 hval0
  exact (lawChecks N0 va0 arcs0 _ l1 _ l2 _ l3 W hQ0 hQ1 hQ2 hQ3).mono fun v W' ⟨hv, hle⟩ => by
    subst hv
    exact post_law hW' laidT (by rw [Try.params6]; exact fun t ht => by revert t; decide +kernel) (by kernel_rfl) Try.underlying4 rfl rfl rfl rfl hle
/-- FlowChecks: whatever the input, the law returns true, and its arguments read as they did. -/
theorem flowChecks : Rows.FlowChecksSaid :=
  OpenClaim.holds_of_wide 6 Try.f6 rfl rfl rfl rfl rfl rfl rfl ⟨rfl, rfl, rfl, rfl, rfl⟩ rfl rfl rfl rfl rfl (by kernel_rfl) Try.func6 (by kernel_rfl)
    (of_decide_eq_true (by kernel_rfl)) (by unfold Func.isWrapper; rw [if_neg (of_decide_eq_false (by kernel_rfl))]; exact ⟨rfl, rfl⟩)
    (fun os started H enc _ => liftedChecks os started H enc)
#print axioms flowChecks
end Ytddapgjjndbejaa

end Go.Proofs
