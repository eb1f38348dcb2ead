/- Texts joined for claims: G4. -/
import Derived.Test.YtaigapdghhoncaaGreatDoorKc606a93e82
import Derived.Test.YtaigapdghhoncaaGreatDoorK4e5b9160cb
set_option linter.unusedVariables false
set_option linter.unusedSimpArgs false
set_option linter.unusedSectionVars false
namespace Go.Proofs
open Go Go.Vk Go.Vk.Flow

open Go.Vk.Mark
open Go.Vk.Deed (i64 rng rng_iff owners sumI sumI_cons sumI_snoc)

theorem c_few (b : Sm) (vm vf : Value) (l : List Sg) (vs : Value) (c : List Clm) (vq : Value) (w : World) (hB : SmR 39 41 w vm vf b) (hF : Rd ESG w vs l) (hC : Rd ECL w vq c) :
  Cl Tryz.prog 19 #[.agg #[vm, vf], vs, vq] w fun v w' => ∃ q : Bool, v = .bool q ∧ Le w w' := by
 refine fn_of_run (args := [_, _, _]) 57 Tryz.func19 rfl rfl rfl fun cs => ?_
 have S := Own.start (X := nob) w
 refine r_seq ?_
 refine r_region ?_
 refine l_box S rfl rfl ?_
 intro b4 w1 S2 hl3
 refine l_a rfl ?_
 refine l_nil ?_
 refine r_seq ?_
 refine r_seq ?_
 refine r_region ?_
 refine l_x rfl (x_fieldAddr rfl Tryz.runUnderlying25 rfl Tryz.sizeOf22 (by decide)) ?_
 refine l_x rfl (x_load rfl (ld_blk (S2.blk 0 rfl) Tryz.isAgg22 rfl)) ?_
 refine l_x rfl (x_len (hB.m.le S2.le) rfl Tryz.runUnderlying22) ?_
 refine l_x rfl (x_gtr rfl rfl) ?_
 refine l_m rfl ?_
 refine l_splitd (d := 11) rfl (fun hg11 => ?_) (fun hg11 => ?_)
 ·skip
  refine l_x rfl (x_fieldAddr rfl Tryz.runUnderlying25 rfl Tryz.sizeOf22 (by decide)) ?_
  refine l_x rfl (x_load rfl (ld_blk (S2.blk 0 rfl) Tryz.isAgg22 rfl)) ?_
  refine l_x rfl (x_len (hB.m.le S2.le) rfl Tryz.runUnderlying22) ?_
  refine l_x rfl (x_leq rfl rfl) ?_
  refine l_x rfl (x_pick_t rfl rfl) ?_
  refine l_m rfl ?_
  refine l_splitd (d := 17) rfl (fun hg17 => ?_) (fun hg17 => ?_)
  ·skip
   refine l_pass rfl ?_
   refine l_pass rfl ?_
   refine l_pass rfl ?_
   refine l_pass rfl ?_
   refine l_x rfl (x_pick_t rfl rfl) ?_
   refine l_m rfl ?_
   refine l_pass rfl ?_
   refine l_pass rfl ?_
   refine l_pass rfl ?_
   refine l_pass rfl ?_
   refine l_x rfl (x_pick_t rfl rfl) ?_
   refine l_nil ?_
   refine r_true rfl ?_
   refine r_seq ?_
   refine r_region ?_
   refine l_a rfl ?_
   refine l_nil ?_
   refine r_ret (rs := [.tmp 6]) [_] Tryz.func19 rfl ⟨rfl, trivial⟩ ?_
   exact ⟨_, rfl, S2.le⟩
  refine l_x rfl (x_fieldAddr rfl Tryz.runUnderlying25 rfl Tryz.sizeOf22 (by decide)) ?_
  refine l_x rfl (x_load rfl (ld_blk (S2.blk 0 rfl) Tryz.isAgg22 rfl)) ?_
  refine l_x rfl (x_len (hB.m.le S2.le) rfl Tryz.runUnderlying22) ?_
  refine l_x rfl (x_gtr rfl rfl) ?_
  refine l_x rfl (x_pick_f rfl rfl) ?_
  refine l_m rfl ?_
  refine l_splitd (d := 23) rfl (fun hg23 => ?_) (fun hg23 => ?_)
  ·skip
   refine l_pass rfl ?_
   refine l_pass rfl ?_
   refine l_pass rfl ?_
   refine l_pass rfl ?_
   refine l_x rfl (x_pick_t rfl rfl) ?_
   refine l_nil ?_
   refine r_true rfl ?_
   refine r_seq ?_
   refine r_region ?_
   refine l_a rfl ?_
   refine l_nil ?_
   refine r_ret (rs := [.tmp 6]) [_] Tryz.func19 rfl ⟨rfl, trivial⟩ ?_
   exact ⟨_, rfl, S2.le⟩
  refine l_x rfl (x_fieldAddr rfl Tryz.runUnderlying25 rfl Tryz.sizeOf23 (by decide)) ?_
  refine l_x rfl (x_load rfl (ld_blk (S2.blk 0 rfl) Tryz.isAgg23 rfl)) ?_
  refine l_x rfl (x_len (hB.f.le S2.le) rfl Tryz.runUnderlying23) ?_
  refine l_x rfl (x_gtr rfl rfl) ?_
  refine l_x rfl (x_pick_f rfl rfl) ?_
  refine l_nil ?_
  refine r_ifd rfl (fun hc28 => ?_) (fun hc28 => ?_)
  ·skip
   refine r_seq ?_
   refine r_region ?_
   refine l_a rfl ?_
   refine l_nil ?_
   refine r_ret (rs := [.tmp 6]) [_] Tryz.func19 rfl ⟨rfl, trivial⟩ ?_
   exact ⟨_, rfl, S2.le⟩
  refine r_skip ?_
  refine r_seq ?_
  refine r_region ?_
  refine l_m rfl ?_
  refine l_x rfl (x_len (hF.le S2.le) rfl Tryz.runUnderlying50) ?_
  refine l_x rfl (x_leq rfl rfl) ?_
  refine l_m rfl ?_
  refine l_splitd (d := 32) rfl (fun hg32 => ?_) (fun hg32 => ?_)
  ·skip
   refine l_pass rfl ?_
   refine l_pass rfl ?_
   refine l_pass rfl ?_
   refine l_pass rfl ?_
   refine l_pass rfl ?_
   refine l_pass rfl ?_
   refine l_pass rfl ?_
   refine l_pass rfl ?_
   refine l_x rfl (x_pick_t rfl rfl) ?_
   refine l_m rfl ?_
   refine l_m rfl ?_
   refine l_x rfl (x_len (hC.le S2.le) rfl Tryz.runUnderlying51) ?_
   refine l_x rfl (x_leq rfl rfl) ?_
   refine l_m rfl ?_
   refine l_splitd (d := 46) rfl (fun hg46 => ?_) (fun hg46 => ?_)
   ·skip
    refine l_pass rfl ?_
    refine l_pass rfl ?_
    refine l_pass rfl ?_
    refine l_pass rfl ?_
    refine l_pass rfl ?_
    refine l_pass rfl ?_
    refine l_pass rfl ?_
    refine l_pass rfl ?_
    refine l_x rfl (x_pick_t rfl rfl) ?_
    refine l_x rfl (x_pick_t rfl rfl) ?_
    refine l_a rfl ?_
    refine l_nil ?_
    refine r_ret (rs := [.tmp 6]) [_] Tryz.func19 rfl ⟨rfl, trivial⟩ ?_
    exact ⟨_, rfl, S2.le⟩
   refine l_m rfl ?_
   refine l_x rfl (x_len (hC.le S2.le) rfl Tryz.runUnderlying51) ?_
   refine l_x rfl (x_gtr rfl rfl) ?_
   refine l_m rfl ?_
   refine l_splitd (d := 50) rfl (fun hg50 => ?_) (fun hg50 => ?_)
   ·skip
    refine l_m rfl ?_
    refine l_x rfl (x_len (hC.le S2.le) rfl Tryz.runUnderlying51) ?_
    refine l_x rfl (x_leq rfl rfl) ?_
    refine l_x rfl (x_pick_t rfl rfl) ?_
    refine l_x rfl (x_pick_f rfl rfl) ?_
    refine l_x rfl (x_pick_t rfl rfl) ?_
    refine l_a rfl ?_
    refine l_nil ?_
    refine r_ret (rs := [.tmp 6]) [_] Tryz.func19 rfl ⟨rfl, trivial⟩ ?_
    exact ⟨_, rfl, S2.le⟩
   refine l_pass rfl ?_
   refine l_pass rfl ?_
   refine l_pass rfl ?_
   refine l_x rfl (x_pick_f rfl rfl) ?_
   refine l_x rfl (x_pick_f rfl rfl) ?_
   refine l_x rfl (x_pick_t rfl rfl) ?_
   refine l_a rfl ?_
   refine l_nil ?_
   refine r_ret (rs := [.tmp 6]) [_] Tryz.func19 rfl ⟨rfl, trivial⟩ ?_
   exact ⟨_, rfl, S2.le⟩
  refine l_m rfl ?_
  refine l_x rfl (x_len (hF.le S2.le) rfl Tryz.runUnderlying50) ?_
  refine l_x rfl (x_gtr rfl rfl) ?_
  refine l_m rfl ?_
  refine l_splitd (d := 36) rfl (fun hg36 => ?_) (fun hg36 => ?_)
  ·skip
   refine l_m rfl ?_
   refine l_x rfl (x_len (hF.le S2.le) rfl Tryz.runUnderlying50) ?_
   refine l_x rfl (x_leq rfl rfl) ?_
   refine l_x rfl (x_pick_t rfl rfl) ?_
   refine l_x rfl (x_pick_f rfl rfl) ?_
   refine l_m rfl ?_
   refine l_splitd (d := 42) rfl (fun hg42 => ?_) (fun hg42 => ?_)
   ·skip
    refine l_m rfl ?_
    refine l_x rfl (x_len (hC.le S2.le) rfl Tryz.runUnderlying51) ?_
    refine l_x rfl (x_leq rfl rfl) ?_
    refine l_m rfl ?_
    refine l_splitd (d := 46) rfl (fun hg46 => ?_) (fun hg46 => ?_)
    ·skip
     refine l_pass rfl ?_
     refine l_pass rfl ?_
     refine l_pass rfl ?_
     refine l_pass rfl ?_
     refine l_pass rfl ?_
     refine l_pass rfl ?_
     refine l_pass rfl ?_
     refine l_pass rfl ?_
     refine l_x rfl (x_pick_t rfl rfl) ?_
     refine l_x rfl (x_pick_t rfl rfl) ?_
     refine l_a rfl ?_
     refine l_nil ?_
     refine r_ret (rs := [.tmp 6]) [_] Tryz.func19 rfl ⟨rfl, trivial⟩ ?_
     exact ⟨_, rfl, S2.le⟩
    refine l_m rfl ?_
    refine l_x rfl (x_len (hC.le S2.le) rfl Tryz.runUnderlying51) ?_
    refine l_x rfl (x_gtr rfl rfl) ?_
    refine l_m rfl ?_
    refine l_splitd (d := 50) rfl (fun hg50 => ?_) (fun hg50 => ?_)
    ·skip
     refine l_m rfl ?_
     refine l_x rfl (x_len (hC.le S2.le) rfl Tryz.runUnderlying51) ?_
     refine l_x rfl (x_leq rfl rfl) ?_
     refine l_x rfl (x_pick_t rfl rfl) ?_
     refine l_x rfl (x_pick_f rfl rfl) ?_
     refine l_x rfl (x_pick_t rfl rfl) ?_
     refine l_a rfl ?_
     refine l_nil ?_
     refine r_ret (rs := [.tmp 6]) [_] Tryz.func19 rfl ⟨rfl, trivial⟩ ?_
     exact ⟨_, rfl, S2.le⟩
    refine l_pass rfl ?_
    refine l_pass rfl ?_
    refine l_pass rfl ?_
    refine l_x rfl (x_pick_f rfl rfl) ?_
    refine l_x rfl (x_pick_f rfl rfl) ?_
    refine l_x rfl (x_pick_t rfl rfl) ?_
    refine l_a rfl ?_
    refine l_nil ?_
    refine r_ret (rs := [.tmp 6]) [_] Tryz.func19 rfl ⟨rfl, trivial⟩ ?_
    exact ⟨_, rfl, S2.le⟩
   refine l_pass rfl ?_
   refine l_pass rfl ?_
   refine l_pass rfl ?_
   refine l_pass rfl ?_
   refine l_pass rfl ?_
   refine l_pass rfl ?_
   refine l_pass rfl ?_
   refine l_pass rfl ?_
   refine l_pass rfl ?_
   refine l_pass rfl ?_
   refine l_pass rfl ?_
   refine l_pass rfl ?_
   refine l_pass rfl ?_
   refine l_x rfl (x_pick_f rfl rfl) ?_
   refine l_a rfl ?_
   refine l_nil ?_
   refine r_ret (rs := [.tmp 6]) [_] Tryz.func19 rfl ⟨rfl, trivial⟩ ?_
   exact ⟨_, rfl, S2.le⟩
  refine l_pass rfl ?_
  refine l_pass rfl ?_
  refine l_pass rfl ?_
  refine l_x rfl (x_pick_f rfl rfl) ?_
  refine l_x rfl (x_pick_f rfl rfl) ?_
  refine l_m rfl ?_
  refine l_pass rfl ?_
  refine l_pass rfl ?_
  refine l_pass rfl ?_
  refine l_pass rfl ?_
  refine l_pass rfl ?_
  refine l_pass rfl ?_
  refine l_pass rfl ?_
  refine l_pass rfl ?_
  refine l_pass rfl ?_
  refine l_pass rfl ?_
  refine l_pass rfl ?_
  refine l_pass rfl ?_
  refine l_pass rfl ?_
  refine l_x rfl (x_pick_f rfl rfl) ?_
  refine l_a rfl ?_
  refine l_nil ?_
  refine r_ret (rs := [.tmp 6]) [_] Tryz.func19 rfl ⟨rfl, trivial⟩ ?_
  exact ⟨_, rfl, S2.le⟩
 refine l_pass rfl ?_
 refine l_pass rfl ?_
 refine l_pass rfl ?_
 refine l_pass rfl ?_
 refine l_x rfl (x_pick_f rfl rfl) ?_
 refine l_m rfl ?_
 refine l_x rfl (x_fieldAddr rfl Tryz.runUnderlying25 rfl Tryz.sizeOf22 (by decide)) ?_
 refine l_x rfl (x_load rfl (ld_blk (S2.blk 0 rfl) Tryz.isAgg22 rfl)) ?_
 refine l_x rfl (x_len (hB.m.le S2.le) rfl Tryz.runUnderlying22) ?_
 refine l_x rfl (x_gtr rfl rfl) ?_
 refine l_x rfl (x_pick_f rfl rfl) ?_
 refine l_m rfl ?_
 refine l_splitd (d := 23) rfl (fun hg23 => ?_) (fun hg23 => ?_)
 ·skip
  refine l_pass rfl ?_
  refine l_pass rfl ?_
  refine l_pass rfl ?_
  refine l_pass rfl ?_
  refine l_x rfl (x_pick_t rfl rfl) ?_
  refine l_nil ?_
  refine r_true rfl ?_
  refine r_seq ?_
  refine r_region ?_
  refine l_a rfl ?_
  refine l_nil ?_
  refine r_ret (rs := [.tmp 6]) [_] Tryz.func19 rfl ⟨rfl, trivial⟩ ?_
  exact ⟨_, rfl, S2.le⟩
 refine l_x rfl (x_fieldAddr rfl Tryz.runUnderlying25 rfl Tryz.sizeOf23 (by decide)) ?_
 refine l_x rfl (x_load rfl (ld_blk (S2.blk 0 rfl) Tryz.isAgg23 rfl)) ?_
 refine l_x rfl (x_len (hB.f.le S2.le) rfl Tryz.runUnderlying23) ?_
 refine l_x rfl (x_gtr rfl rfl) ?_
 refine l_x rfl (x_pick_f rfl rfl) ?_
 refine l_nil ?_
 refine r_ifd rfl (fun hc28 => ?_) (fun hc28 => ?_)
 ·skip
  refine r_seq ?_
  refine r_region ?_
  refine l_a rfl ?_
  refine l_nil ?_
  refine r_ret (rs := [.tmp 6]) [_] Tryz.func19 rfl ⟨rfl, trivial⟩ ?_
  exact ⟨_, rfl, S2.le⟩
 refine r_skip ?_
 refine r_seq ?_
 refine r_region ?_
 refine l_m rfl ?_
 refine l_x rfl (x_len (hF.le S2.le) rfl Tryz.runUnderlying50) ?_
 refine l_x rfl (x_leq rfl rfl) ?_
 refine l_m rfl ?_
 refine l_splitd (d := 32) rfl (fun hg32 => ?_) (fun hg32 => ?_)
 ·skip
  refine l_pass rfl ?_
  refine l_pass rfl ?_
  refine l_pass rfl ?_
  refine l_pass rfl ?_
  refine l_pass rfl ?_
  refine l_pass rfl ?_
  refine l_pass rfl ?_
  refine l_pass rfl ?_
  refine l_x rfl (x_pick_t rfl rfl) ?_
  refine l_m rfl ?_
  refine l_m rfl ?_
  refine l_x rfl (x_len (hC.le S2.le) rfl Tryz.runUnderlying51) ?_
  refine l_x rfl (x_leq rfl rfl) ?_
  refine l_m rfl ?_
  refine l_splitd (d := 46) rfl (fun hg46 => ?_) (fun hg46 => ?_)
  ·skip
   refine l_pass rfl ?_
   refine l_pass rfl ?_
   refine l_pass rfl ?_
   refine l_pass rfl ?_
   refine l_pass rfl ?_
   refine l_pass rfl ?_
   refine l_pass rfl ?_
   refine l_pass rfl ?_
   refine l_x rfl (x_pick_t rfl rfl) ?_
   refine l_x rfl (x_pick_t rfl rfl) ?_
   refine l_a rfl ?_
   refine l_nil ?_
   refine r_ret (rs := [.tmp 6]) [_] Tryz.func19 rfl ⟨rfl, trivial⟩ ?_
   exact ⟨_, rfl, S2.le⟩
  refine l_m rfl ?_
  refine l_x rfl (x_len (hC.le S2.le) rfl Tryz.runUnderlying51) ?_
  refine l_x rfl (x_gtr rfl rfl) ?_
  refine l_m rfl ?_
  refine l_splitd (d := 50) rfl (fun hg50 => ?_) (fun hg50 => ?_)
  ·skip
   refine l_m rfl ?_
   refine l_x rfl (x_len (hC.le S2.le) rfl Tryz.runUnderlying51) ?_
   refine l_x rfl (x_leq rfl rfl) ?_
   refine l_x rfl (x_pick_t rfl rfl) ?_
   refine l_x rfl (x_pick_f rfl rfl) ?_
   refine l_x rfl (x_pick_t rfl rfl) ?_
   refine l_a rfl ?_
   refine l_nil ?_
   refine r_ret (rs := [.tmp 6]) [_] Tryz.func19 rfl ⟨rfl, trivial⟩ ?_
   exact ⟨_, rfl, S2.le⟩
  refine l_pass rfl ?_
  refine l_pass rfl ?_
  refine l_pass rfl ?_
  refine l_x rfl (x_pick_f rfl rfl) ?_
  refine l_x rfl (x_pick_f rfl rfl) ?_
  refine l_x rfl (x_pick_t rfl rfl) ?_
  refine l_a rfl ?_
  refine l_nil ?_
  refine r_ret (rs := [.tmp 6]) [_] Tryz.func19 rfl ⟨rfl, trivial⟩ ?_
  exact ⟨_, rfl, S2.le⟩
 refine l_m rfl ?_
 refine l_x rfl (x_len (hF.le S2.le) rfl Tryz.runUnderlying50) ?_
 refine l_x rfl (x_gtr rfl rfl) ?_
 refine l_m rfl ?_
 refine l_splitd (d := 36) rfl (fun hg36 => ?_) (fun hg36 => ?_)
 ·skip
  refine l_m rfl ?_
  refine l_x rfl (x_len (hF.le S2.le) rfl Tryz.runUnderlying50) ?_
  refine l_x rfl (x_leq rfl rfl) ?_
  refine l_x rfl (x_pick_t rfl rfl) ?_
  refine l_x rfl (x_pick_f rfl rfl) ?_
  refine l_m rfl ?_
  refine l_splitd (d := 42) rfl (fun hg42 => ?_) (fun hg42 => ?_)
  ·skip
   refine l_m rfl ?_
   refine l_x rfl (x_len (hC.le S2.le) rfl Tryz.runUnderlying51) ?_
   refine l_x rfl (x_leq rfl rfl) ?_
   refine l_m rfl ?_
   refine l_splitd (d := 46) rfl (fun hg46 => ?_) (fun hg46 => ?_)
   ·skip
    refine l_pass rfl ?_
    refine l_pass rfl ?_
    refine l_pass rfl ?_
    refine l_pass rfl ?_
    refine l_pass rfl ?_
    refine l_pass rfl ?_
    refine l_pass rfl ?_
    refine l_pass rfl ?_
    refine l_x rfl (x_pick_t rfl rfl) ?_
    refine l_x rfl (x_pick_t rfl rfl) ?_
    refine l_a rfl ?_
    refine l_nil ?_
    refine r_ret (rs := [.tmp 6]) [_] Tryz.func19 rfl ⟨rfl, trivial⟩ ?_
    exact ⟨_, rfl, S2.le⟩
   refine l_m rfl ?_
   refine l_x rfl (x_len (hC.le S2.le) rfl Tryz.runUnderlying51) ?_
   refine l_x rfl (x_gtr rfl rfl) ?_
   refine l_m rfl ?_
   refine l_splitd (d := 50) rfl (fun hg50 => ?_) (fun hg50 => ?_)
   ·skip
    refine l_m rfl ?_
    refine l_x rfl (x_len (hC.le S2.le) rfl Tryz.runUnderlying51) ?_
    refine l_x rfl (x_leq rfl rfl) ?_
    refine l_x rfl (x_pick_t rfl rfl) ?_
    refine l_x rfl (x_pick_f rfl rfl) ?_
    refine l_x rfl (x_pick_t rfl rfl) ?_
    refine l_a rfl ?_
    refine l_nil ?_
    refine r_ret (rs := [.tmp 6]) [_] Tryz.func19 rfl ⟨rfl, trivial⟩ ?_
    exact ⟨_, rfl, S2.le⟩
   refine l_pass rfl ?_
   refine l_pass rfl ?_
   refine l_pass rfl ?_
   refine l_x rfl (x_pick_f rfl rfl) ?_
   refine l_x rfl (x_pick_f rfl rfl) ?_
   refine l_x rfl (x_pick_t rfl rfl) ?_
   refine l_a rfl ?_
   refine l_nil ?_
   refine r_ret (rs := [.tmp 6]) [_] Tryz.func19 rfl ⟨rfl, trivial⟩ ?_
   exact ⟨_, rfl, S2.le⟩
  refine l_pass rfl ?_
  refine l_pass rfl ?_
  refine l_pass rfl ?_
  refine l_pass rfl ?_
  refine l_pass rfl ?_
  refine l_pass rfl ?_
  refine l_pass rfl ?_
  refine l_pass rfl ?_
  refine l_pass rfl ?_
  refine l_pass rfl ?_
  refine l_pass rfl ?_
  refine l_pass rfl ?_
  refine l_pass rfl ?_
  refine l_x rfl (x_pick_f rfl rfl) ?_
  refine l_a rfl ?_
  refine l_nil ?_
  refine r_ret (rs := [.tmp 6]) [_] Tryz.func19 rfl ⟨rfl, trivial⟩ ?_
  exact ⟨_, rfl, S2.le⟩
 refine l_pass rfl ?_
 refine l_pass rfl ?_
 refine l_pass rfl ?_
 refine l_x rfl (x_pick_f rfl rfl) ?_
 refine l_x rfl (x_pick_f rfl rfl) ?_
 refine l_m rfl ?_
 refine l_pass rfl ?_
 refine l_pass rfl ?_
 refine l_pass rfl ?_
 refine l_pass rfl ?_
 refine l_pass rfl ?_
 refine l_pass rfl ?_
 refine l_pass rfl ?_
 refine l_pass rfl ?_
 refine l_pass rfl ?_
 refine l_pass rfl ?_
 refine l_pass rfl ?_
 refine l_pass rfl ?_
 refine l_pass rfl ?_
 refine l_x rfl (x_pick_f rfl rfl) ?_
 refine l_a rfl ?_
 refine l_nil ?_
 refine r_ret (rs := [.tmp 6]) [_] Tryz.func19 rfl ⟨rfl, trivial⟩ ?_
 exact ⟨_, rfl, S2.le⟩

end Go.Proofs
