/-
  Contracts of functions of the program: each by symbolic execution of its text.
-/
import Derived.Test.YtddapgjjndbejaaF17
import Derived.Test.YtddapgjjndbejaaVkFlowLaws
namespace Go.Proofs
open Go Go.Vk Go.Vk.Flow

/-- couchant/couchantlaw06.small. -/
theorem c_small (N : Int) (va : Value) (arcs : List Arc) (w : World) (hA : Rd EA w va arcs) :
    Cl Try.prog 18 #[.agg #[.int .i64 N, va]] w fun v w' => v = .bool (smallB N arcs.length) ∧ Le w w' := by
  refine fn_of_run (args := [_]) 29 Try.func18 rfl rfl rfl fun cs => ?_
  have S := Own.start (X := nob) w
  refine r_seq ?_
  refine r_region ?_
  refine l_box S rfl rfl ?_
  intro b4 w1 S2 hl3
  refine l_x rfl (x_as rfl) ?_
  refine l_nil ?_
  refine r_seq ?_
  refine r_region ?_
  refine l_x rfl (x_fieldAddr rfl Try.runUnderlying24 rfl Try.sizeOf22 (by decide)) ?_
  refine l_x rfl (x_load rfl (ld_blk (S2.blk 0 rfl) Try.isAgg22 rfl)) ?_
  refine l_x rfl (x_len (hA.le S2.le) rfl Try.runUnderlying22) ?_
  refine l_x rfl (x_leq rfl rfl) ?_
  refine l_x rfl (x_mv rfl) ?_
  refine l_splitd (d := 7) rfl (fun hg7 => ?_) (fun hg7 => ?_)
  · skip
    refine l_x rfl (x_fieldAddr rfl Try.runUnderlying24 rfl Try.sizeOf3 (by decide)) ?_
    refine l_x rfl (x_load rfl (ld_blk (S2.blk 0 rfl) Try.isAgg3 rfl)) ?_
    refine l_x rfl (x_leq rfl rfl) ?_
    refine l_x rfl (x_mv rfl) ?_
    refine l_splitd (d := 11) rfl (fun hg11 => ?_) (fun hg11 => ?_)
    · skip
      refine l_pass rfl ?_
      refine l_pass rfl ?_
      refine l_pass rfl ?_
      refine l_x rfl (x_pick_t rfl rfl) ?_
      refine l_x rfl (x_pick_t rfl rfl) ?_
      refine l_x rfl (x_mv rfl) ?_
      refine l_pass rfl ?_
      refine l_pass rfl ?_
      refine l_pass rfl ?_
      refine l_pass rfl ?_
      refine l_pass rfl ?_
      refine l_pass rfl ?_
      refine l_pass rfl ?_
      refine l_pass rfl ?_
      refine l_pass rfl ?_
      refine l_pass rfl ?_
      refine l_x rfl (x_pick_t rfl rfl) ?_
      refine l_x rfl (x_as rfl) ?_
      refine l_nil ?_
      refine r_ret (rs := [.tmp 2]) [_] Try.func18 rfl ⟨rfl, trivial⟩ ?_
      exact ⟨congrArg Value.bool (Bool.eq_iff_iff.2 (by simp [smallB]; omega)), S2.le⟩
    · skip
      refine l_x rfl (x_fieldAddr rfl Try.runUnderlying24 rfl Try.sizeOf3 (by decide)) ?_
      refine l_x rfl (x_load rfl (ld_blk (S2.blk 0 rfl) Try.isAgg3 rfl)) ?_
      refine l_x rfl (x_gtr rfl rfl) ?_
      refine l_x rfl (x_pick_f rfl rfl) ?_
      refine l_x rfl (x_pick_t rfl rfl) ?_
      refine l_x rfl (x_mv rfl) ?_
      refine l_splitd (d := 17) rfl (fun hg17 => ?_) (fun hg17 => ?_)
      · skip
        refine l_pass rfl ?_
        refine l_pass rfl ?_
        refine l_pass rfl ?_
        refine l_pass rfl ?_
        refine l_pass rfl ?_
        refine l_pass rfl ?_
        refine l_pass rfl ?_
        refine l_pass rfl ?_
        refine l_pass rfl ?_
        refine l_pass rfl ?_
        refine l_x rfl (x_pick_t rfl rfl) ?_
        refine l_x rfl (x_as rfl) ?_
        refine l_nil ?_
        refine r_ret (rs := [.tmp 2]) [_] Try.func18 rfl ⟨rfl, trivial⟩ ?_
        exact ⟨congrArg Value.bool (Bool.eq_iff_iff.2 (by simp [smallB]; omega)), S2.le⟩
      · skip
        refine l_x rfl (x_fieldAddr rfl Try.runUnderlying24 rfl Try.sizeOf22 (by decide)) ?_
        refine l_x rfl (x_load rfl (ld_blk (S2.blk 0 rfl) Try.isAgg22 rfl)) ?_
        refine l_x rfl (x_len (hA.le S2.le) rfl Try.runUnderlying22) ?_
        refine l_x rfl (x_gtr rfl rfl) ?_
        refine l_x rfl (x_mv rfl) ?_
        refine l_splitd (d := 22) rfl (fun hg22 => ?_) (fun hg22 => ?_)
        · skip
          refine l_x rfl (x_fieldAddr rfl Try.runUnderlying24 rfl Try.sizeOf22 (by decide)) ?_
          refine l_x rfl (x_load rfl (ld_blk (S2.blk 0 rfl) Try.isAgg22 rfl)) ?_
          refine l_x rfl (x_len (hA.le S2.le) rfl Try.runUnderlying22) ?_
          refine l_x rfl (x_leq rfl rfl) ?_
          refine l_x rfl (x_pick_t rfl rfl) ?_
          refine l_x rfl (x_pick_f rfl rfl) ?_
          refine l_x rfl (x_as rfl) ?_
          refine l_nil ?_
          refine r_ret (rs := [.tmp 2]) [_] Try.func18 rfl ⟨rfl, trivial⟩ ?_
          exact ⟨congrArg Value.bool (Bool.eq_iff_iff.2 (by simp [smallB]; omega)), S2.le⟩
        · skip
          refine l_pass rfl ?_
          refine l_pass rfl ?_
          refine l_pass rfl ?_
          refine l_pass rfl ?_
          refine l_x rfl (x_pick_f rfl rfl) ?_
          refine l_x rfl (x_pick_f rfl rfl) ?_
          refine l_x rfl (x_as rfl) ?_
          refine l_nil ?_
          refine r_ret (rs := [.tmp 2]) [_] Try.func18 rfl ⟨rfl, trivial⟩ ?_
          exact ⟨congrArg Value.bool (Bool.eq_iff_iff.2 (by simp [smallB]; omega)), S2.le⟩
  · skip
    refine l_pass rfl ?_
    refine l_pass rfl ?_
    refine l_pass rfl ?_
    refine l_pass rfl ?_
    refine l_pass rfl ?_
    refine l_pass rfl ?_
    refine l_pass rfl ?_
    refine l_pass rfl ?_
    refine l_x rfl (x_pick_f rfl rfl) ?_
    refine l_x rfl (x_mv rfl) ?_
    refine l_x rfl (x_fieldAddr rfl Try.runUnderlying24 rfl Try.sizeOf22 (by decide)) ?_
    refine l_x rfl (x_load rfl (ld_blk (S2.blk 0 rfl) Try.isAgg22 rfl)) ?_
    refine l_x rfl (x_len (hA.le S2.le) rfl Try.runUnderlying22) ?_
    refine l_x rfl (x_gtr rfl rfl) ?_
    refine l_x rfl (x_mv rfl) ?_
    refine l_splitd (d := 22) rfl (fun hg22 => ?_) (fun hg22 => ?_)
    · skip
      refine l_x rfl (x_fieldAddr rfl Try.runUnderlying24 rfl Try.sizeOf22 (by decide)) ?_
      refine l_x rfl (x_load rfl (ld_blk (S2.blk 0 rfl) Try.isAgg22 rfl)) ?_
      refine l_x rfl (x_len (hA.le S2.le) rfl Try.runUnderlying22) ?_
      refine l_x rfl (x_leq rfl rfl) ?_
      refine l_x rfl (x_pick_t rfl rfl) ?_
      refine l_x rfl (x_pick_f rfl rfl) ?_
      refine l_x rfl (x_as rfl) ?_
      refine l_nil ?_
      refine r_ret (rs := [.tmp 2]) [_] Try.func18 rfl ⟨rfl, trivial⟩ ?_
      exact ⟨congrArg Value.bool (Bool.eq_iff_iff.2 (by simp [smallB]; omega)), S2.le⟩
    · skip
      refine l_pass rfl ?_
      refine l_pass rfl ?_
      refine l_pass rfl ?_
      refine l_pass rfl ?_
      refine l_x rfl (x_pick_f rfl rfl) ?_
      refine l_x rfl (x_pick_f rfl rfl) ?_
      refine l_x rfl (x_as rfl) ?_
      refine l_nil ?_
      refine r_ret (rs := [.tmp 2]) [_] Try.func18 rfl ⟨rfl, trivial⟩ ?_
      exact ⟨congrArg Value.bool (Bool.eq_iff_iff.2 (by simp [smallB]; omega)), S2.le⟩

/-- couchant/couchantlaw06.short. -/
theorem c_short (va vb vc : Value) (a b c : List Int) (w : World) (Ha : Rd EI w va a) (Hb : Rd EI w vb b) (Hc : Rd EI w vc c) :
    Cl Try.prog 30 #[va, vb, vc] w fun v w' => v = .bool (decide (a.length ≤ 200 ∧ b.length ≤ 200 ∧ c.length ≤ 200)) ∧ Le w w' := by
  refine fn_of_run (args := [_, _, _]) 20 Try.func30 rfl rfl rfl fun cs => ?_
  have S := Own.start (X := nob) w
  refine r_seq ?_
  refine r_region ?_
  refine l_x rfl (x_as rfl) ?_
  refine l_nil ?_
  refine r_seq ?_
  refine r_region ?_
  refine l_x rfl (x_mv rfl) ?_
  refine l_x rfl (x_len (Ha.le S.le) rfl Try.runUnderlying25) ?_
  refine l_x rfl (x_leq rfl rfl) ?_
  refine l_x rfl (x_mv rfl) ?_
  refine l_splitd (d := 10) rfl (fun hg10 => ?_) (fun hg10 => ?_)
  · skip
    refine l_x rfl (x_mv rfl) ?_
    refine l_x rfl (x_len (Hb.le S.le) rfl Try.runUnderlying25) ?_
    refine l_x rfl (x_leq rfl rfl) ?_
    refine l_x rfl (x_pick_t rfl rfl) ?_
    refine l_x rfl (x_mv rfl) ?_
    refine l_splitd (d := 15) rfl (fun hg15 => ?_) (fun hg15 => ?_)
    · skip
      refine l_x rfl (x_mv rfl) ?_
      refine l_x rfl (x_len (Hc.le S.le) rfl Try.runUnderlying25) ?_
      refine l_x rfl (x_leq rfl rfl) ?_
      refine l_x rfl (x_pick_t rfl rfl) ?_
      refine l_x rfl (x_as rfl) ?_
      refine l_nil ?_
      refine r_ret (rs := [.tmp 6]) [_] Try.func30 rfl ⟨rfl, trivial⟩ ?_
      exact ⟨congrArg Value.bool (Bool.eq_iff_iff.2 (by simp; omega)), S.le⟩
    · skip
      refine l_pass rfl ?_
      refine l_pass rfl ?_
      refine l_pass rfl ?_
      refine l_x rfl (x_pick_f rfl rfl) ?_
      refine l_x rfl (x_as rfl) ?_
      refine l_nil ?_
      refine r_ret (rs := [.tmp 6]) [_] Try.func30 rfl ⟨rfl, trivial⟩ ?_
      exact ⟨congrArg Value.bool (Bool.eq_iff_iff.2 (by simp; omega)), S.le⟩
  · skip
    refine l_pass rfl ?_
    refine l_pass rfl ?_
    refine l_pass rfl ?_
    refine l_x rfl (x_pick_f rfl rfl) ?_
    refine l_x rfl (x_mv rfl) ?_
    refine l_pass rfl ?_
    refine l_pass rfl ?_
    refine l_pass rfl ?_
    refine l_x rfl (x_pick_f rfl rfl) ?_
    refine l_x rfl (x_as rfl) ?_
    refine l_nil ?_
    refine r_ret (rs := [.tmp 6]) [_] Try.func30 rfl ⟨rfl, trivial⟩ ?_
    exact ⟨congrArg Value.bool (Bool.eq_iff_iff.2 (by simp; omega)), S.le⟩

end Go.Proofs
