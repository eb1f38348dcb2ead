/- Texts joined for claims: LPossible. -/
import Derived.Test.YtdikpjkdbgfoaaaGreatKc93b102ee0
import Derived.Test.YtdikpjkdbgfoaaaGreatKa4eab24274
set_option linter.unusedVariables false
set_option linter.unusedSimpArgs false
set_option linter.unusedSectionVars false
/-
  Contracts of functions of the program: each by symbolic execution of its text.
-/
namespace Go.Proofs
open Go Go.Vk Go.Vk.Flow

open Go.Vk.Deed

/-- couchant/couchantref02.has. -/
theorem c_rhas (l : List Int) (vl : Value) (x : Int) (hm : l.length ≤ 9223372036854775807) (w : World) (hL : Rd EI w vl l) :
    Cl Tryz.prog 84 #[vl, .int .i64 x] w fun v w' => v = .bool (l.contains x) ∧ Le w w' := by
  refine fn_of_run (args := [_, _]) 18 Tryz.func84 rfl rfl rfl fun cs => ?_
  have S := Own.start (X := nob) w
  refine r_seq ?_
  refine r_region ?_
  refine l_x rfl (x_as rfl) ?_
  refine l_nil ?_
  refine r_seq ?_
  refine r_seq ?_
  refine r_region ?_
  refine l_x rfl (x_as rfl) ?_
  refine l_nil ?_
  refine r_block ?_
  refine r_loop (G := Nat) (fun i => l.length - i) (fun i => [(0, vl), (1, .int .i64 x), (5, .int .i64 i)]) (fun i w' => (i ≤ l.length) ∧ (∀ y ∈ l.take i, decide (y = x) = false) ∧ Own nob w w' []) 0 ⟨rfl, rfl, rfl, trivial⟩ ⟨Nat.zero_le _, by simp, S⟩ ?_
  rintro i ρ w1 ⟨hi, hno, S1⟩ IH
  refine r_seq ?_
  refine r_seq ?_
  refine r_region ?_
  refine l_x rfl (x_mv rfl) ?_
  refine l_x rfl (x_mv rfl) ?_
  refine l_x rfl (x_len (hL.le S1.le) rfl Tryz.runUnderlying24) ?_
  refine l_x rfl (x_lss rfl rfl) ?_
  refine l_nil ?_
  refine r_ifd rfl (fun hc9 => ?_) (fun hc9 => ?_)
  · skip
    obtain ⟨a, ha⟩ : ∃ a, l[i]? = some a := ⟨_, List.getElem?_eq_getElem (by omega)⟩
    refine r_skip ?_
    refine r_seq ?_
    refine r_block ?_
    refine r_seq ?_
    refine r_region ?_
    refine l_x rfl (x_mv rfl) ?_
    refine l_x rfl (x_mv rfl) ?_
    refine l_index EI rfl (hL.le S1.le) rfl rfl Tryz.runUnderlying24 Tryz.sizeOf3 (by omega) (by first | assumption | exact List.getElem?_eq_getElem (by omega)) ?_
    intro b1 o2 hat3 row4
    refine l_x rfl (x_load rfl (ld_cell Tryz.isAgg3 (row4 0 _ rfl))) ?_
    refine l_x rfl (x_mv rfl) ?_
    refine l_x rfl (x_eql rfl rfl) ?_
    refine l_nil ?_
    refine r_ifd rfl (fun hc17 => ?_) (fun hc17 => ?_)
    · skip
      refine r_seq ?_
      refine r_region ?_
      refine l_x rfl (x_as rfl) ?_
      refine l_nil ?_
      refine r_ret (rs := [.tmp 4]) [_] Tryz.func84 rfl ⟨rfl, trivial⟩ ?_
      exact ⟨congrArg Value.bool (List.contains_iff_mem.2 (hc17 ▸ List.mem_of_getElem? ha)).symm, S1.le⟩
    refine r_skip ?_
    refine r_inBlock ?_
    refine r_region ?_
    refine l_x rfl (x_mv rfl) ?_
    refine l_x rfl (x_add rfl rfl (by omega)) ?_
    refine l_x rfl (x_as rfl) ?_
    refine l_nil ?_
    exact IH (i + 1) _ _ (by omega) ⟨rfl, rfl, rfl, trivial⟩ ⟨by omega, ix_step hno ha hc17, S1⟩
  obtain rfl : i = l.length := by omega
  rw [List.take_length] at hno
  refine r_exit rfl ?_
  refine r_seq ?_
  refine r_region ?_
  refine l_x rfl (x_as rfl) ?_
  refine l_nil ?_
  refine r_ret (rs := [.tmp 4]) [_] Tryz.func84 rfl ⟨rfl, trivial⟩ ?_
  exact ⟨congrArg Value.bool (no_contains hno).symm, S1.le⟩

set_option maxHeartbeats 2000000 in
/-- couchant/couchantref02.Possible. -/
theorem c_rPossible (rs : List Rw) (vl : Value) (known : Int) (a : Rw) (w : World) (hD : DsR 26 3 w vl rs) (hA : SubR 3 w a) :
    Cl Tryz.prog 28 #[vl, .int .i64 known, .agg (encD a).toArray] w fun v w' => v = .int .i64 (possD (dl rs) known a.1) ∧ Le w w' := by
  refine fn_of_run (args := [_, _, _]) 24 Tryz.func28 rfl rfl rfl fun cs => ?_
  have S := Own.start (X := nob) w
  refine r_seq ?_
  refine r_region ?_
  refine l_box S rfl rfl ?_
  intro b4 w1 S2 hl3
  refine l_x rfl (x_as rfl) ?_
  refine l_nil ?_
  refine r_seq ?_
  refine r_region ?_
  refine l_x rfl (x_mv rfl) ?_
  refine l_x rfl (x_load rfl (ld_blks (S2.blk 0 rfl) Tryz.isAgg26 Tryz.sizeOf26 rfl rfl)) ?_
  refine l_call [] [] [_, _] rfl rfl Tryz.call45 rfl (c_rAppend rs vl a _ (hD.le S2.le) (hA.le S2.le)) ?_
  rintro _ w5 ⟨s2, rs2, e2, rfl, he2, hrs2, hor, hN2, hl2⟩
  have S6 := S2.add hl2 hN2
  refine l_x rfl (x_mv rfl) ?_
  refine l_x rfl (x_extract rfl rfl) ?_
  refine l_x rfl (x_extract rfl rfl) ?_
  refine l_x rfl (x_as rfl) ?_
  refine l_x rfl (x_as rfl) ?_
  refine l_nil ?_
  refine r_seq ?_
  refine r_seq ?_
  refine r_region ?_
  refine l_x rfl (x_mv rfl) ?_
  refine l_x rfl (x_neq rfl rfl) ?_
  refine l_nil ?_
  refine r_ifd rfl (fun hc16 => ?_) (fun hc16 => ?_)
  · skip
    refine r_seq ?_
    refine r_region ?_
    refine l_x rfl (x_mv rfl) ?_
    refine l_x rfl (x_as rfl) ?_
    refine l_nil ?_
    refine r_ret (rs := [.tmp 6]) [_] Tryz.func28 rfl ⟨rfl, trivial⟩ ?_
    exact ⟨congrArg (Value.int .i64) (by rw [possD, if_pos (by rw [← he2]; exact hc16), ← he2]), S6.le⟩
  have he0 := Decidable.not_not.1 hc16
  refine r_skip ?_
  refine r_seq ?_
  refine r_seq ?_
  refine r_drawE 5 nob Tryz.mixed (by kernel_rfl) ?_
  intro w7 hl8
  have S9 := S6.step hl8
  refine e_exact 0 _ (by kernel_rfl) rfl rfl (by kernel_rfl) rfl (ex_x rfl (fun w1 h1 => x_mv rfl)) ?_
  refine e_exact 1 _ (by kernel_rfl) rfl rfl (by kernel_rfl) rfl (ex_x rfl (fun w1 h1 => x_mv rfl)) ?_
  refine e_exact 3 _ (by kernel_rfl) rfl rfl (by kernel_rfl) rfl (ex_x rfl (fun w1 h1 => x_fieldAddr rfl Tryz.runUnderlying26 rfl Tryz.sizeOf3 (by decide))) ?_
  refine e_exact 4 _ (by kernel_rfl) rfl rfl (by kernel_rfl) rfl (ex_x rfl (fun w1 h1 => x_load rfl (ld_blk ((S9.step h1).blk 0 rfl) Tryz.isAgg3 rfl))) ?_
  refine e_next [2] (by kernel_rfl) (by kernel_rfl) ⟨⟨_, _, rfl, rfl, ?_⟩, trivial⟩
  refine s_callf [] [] [_, _] rfl rfl Tryz.call52 rfl ((c_rIdle rs2 s2 known _ (dsr_or hD hA hor (S9).le (vec_rd ((S9).at 1 rfl)))).mono ?_)
  rintro v2010 w10 ⟨hN2010, hl2010⟩
  have S11 := S9.add hl2010 hN2010
  refine ⟨.of_le hl2010, ?_⟩
  refine e_done (by kernel_rfl) ?_
  refine l_call [] [] [_, _] rfl rfl Tryz.call84 rfl (c_rhas _ _ _ (by have := idle_len (dl rs2) known; omega) _ (vec_rd (S11.at 2 rfl))) ?_
  rintro _ w12 ⟨rfl, hl14⟩
  have S13 := S11.step hl14
  refine l_nil ?_
  refine r_if rfl (fun hc23 => ?_) (fun hc23 => ?_)
  · skip
    refine r_seq ?_
    refine r_region ?_
    refine l_x rfl (x_as rfl) ?_
    refine l_nil ?_
    refine r_ret (rs := [.tmp 6]) [_] Tryz.func28 rfl ⟨rfl, trivial⟩ ?_
    exact ⟨congrArg (Value.int .i64) (by rw [possD, if_neg (by rw [← he2]; simp [he0]), if_pos (by rw [← hrs2]; simpa using hc23)]), S13.le⟩
  refine r_skip ?_
  refine r_seq ?_
  refine r_region ?_
  refine l_x rfl (x_as rfl) ?_
  refine l_nil ?_
  refine r_ret (rs := [.tmp 6]) [_] Tryz.func28 rfl ⟨rfl, trivial⟩ ?_
  exact ⟨congrArg (Value.int .i64) (by rw [possD, if_neg (by rw [← he2]; simp [he0]), if_neg (by rw [← hrs2]; simpa using hc23)]), S13.le⟩

set_option maxHeartbeats 4000000 in
/-- couchant/couchantlaw02.DeedPossible. -/
theorem lawPossible (rs : List Rw) (vl : Value) (known : Int) (a : Rw) (w : World) (hD : DsR 26 3 w vl rs) (hA : SubR 3 w a) :
    Cl Tryz.prog 4 #[vl, .int .i64 known, .agg (encD a).toArray] w fun v w' => v = .bool true ∧ Le w w' := by
  refine fn_of_run (args := [_, _, _]) 28 Tryz.func4 rfl rfl rfl fun cs => ?_
  have S := Own.start (X := nob) w
  refine r_seq ?_
  refine r_region ?_
  refine l_box S rfl rfl ?_
  intro b4 w1 S2 hl3
  refine l_x rfl (x_as rfl) ?_
  refine l_nil ?_
  refine r_seq ?_
  refine r_seq ?_
  refine r_region ?_
  refine l_x rfl (x_mv rfl) ?_
  refine l_call [] [] [_] rfl rfl Tryz.call25 rfl (c_few rs _ _ (hD.le S2.le)) ?_
  rintro _ w5 ⟨rfl, hl7⟩
  have S6 := S2.step hl7
  refine l_x rfl (x_not rfl) ?_
  refine l_x rfl (x_mv rfl) ?_
  refine l_split (d := 10) rfl (fun hg10 => ?_) (fun hg10 => ?_)
  · skip
    refine l_pass rfl ?_
    refine l_pass rfl ?_
    refine l_pass rfl ?_
    refine l_x rfl (x_pick_t rfl rfl) ?_
    refine l_nil ?_
    refine r_true rfl ?_
    refine r_seq ?_
    refine r_region ?_
    refine l_call [] [] [] rfl rfl Tryz.call23 rfl (c_enteredX _) ?_
    rintro _ w8 ⟨rfl, hl10⟩
    have S9 := S6.step hl10
    refine l_x rfl (x_as rfl) ?_
    refine l_nil ?_
    refine r_ret (rs := [.tmp 6]) [_] Tryz.func4 rfl ⟨rfl, trivial⟩ ?_
    exact ⟨by first | rfl | exact congrArg Value.bool (decide_eq_true rfl), S9.le⟩
  refine l_x rfl (x_load rfl (ld_blks (S6.blk 0 rfl) Tryz.isAgg26 Tryz.sizeOf26 rfl rfl)) ?_
  refine l_call [] [] [_] rfl rfl Tryz.call26 rfl (c_plain a _ (hA.le S6.le)) ?_
  rintro _ w11 ⟨rfl, hl13⟩
  have S12 := S6.step hl13
  refine l_x rfl (x_not rfl) ?_
  refine l_x rfl (x_pick_f rfl rfl) ?_
  refine l_nil ?_
  refine r_if rfl (fun hc14 => ?_) (fun hc14 => ?_)
  · skip
    refine r_seq ?_
    refine r_region ?_
    refine l_call [] [] [] rfl rfl Tryz.call23 rfl (c_enteredX _) ?_
    rintro _ w14 ⟨rfl, hl16⟩
    have S15 := S12.step hl16
    refine l_x rfl (x_as rfl) ?_
    refine l_nil ?_
    refine r_ret (rs := [.tmp 6]) [_] Tryz.func4 rfl ⟨rfl, trivial⟩ ?_
    exact ⟨by first | rfl | exact congrArg Value.bool (decide_eq_true rfl), S15.le⟩
  refine r_skip ?_
  refine r_seq ?_
  refine r_drawR 13 Tryz.mixed (by kernel_rfl) ?_
  refine wd_call [] [] [] rfl rfl Tryz.call23 rfl (fun w1 h1 => c_enteredX _) ?_
  refine w_x rfl (fun w1 h1 => x_mv rfl) ?_
  refine w_x rfl (fun w1 h1 => x_mv rfl) ?_
  refine w_x rfl (fun w1 h1 => x_mv rfl) ?_
  refine w_x rfl (fun w1 h1 => x_load rfl (ld_blks ((S12.step h1).blk 0 rfl) Tryz.isAgg26 Tryz.sizeOf26 rfl rfl)) ?_
  refine wd_call [] [] [_, _, _] rfl rfl Tryz.call27 rfl (fun w1 h1 => c_Possible rs vl known a _ (hD.le (S12.step h1).le) (hA.le (S12.step h1).le)) ?_
  refine w_x rfl (fun w1 h1 => x_mv rfl) ?_
  refine w_x rfl (fun w1 h1 => x_mv rfl) ?_
  refine w_x rfl (fun w1 h1 => x_load rfl (ld_blks ((S12.step h1).blk 0 rfl) Tryz.isAgg26 Tryz.sizeOf26 rfl rfl)) ?_
  refine wd_call [] [] [_, _, _] rfl rfl Tryz.call28 rfl (fun w1 h1 => c_rPossible rs vl known a _ (hD.le (S12.step h1).le) (hA.le (S12.step h1).le)) ?_
  refine w_x rfl (fun w1 h1 => x_eql rfl rfl) ?_
  refine w_x rfl (fun w1 h1 => x_pick_t rfl rfl) ?_
  refine w_x rfl (fun w1 h1 => x_as rfl) ?_
  refine w_nil ?_
  intro w17 hl18
  have S19 := S12.step hl18
  refine l_nil ?_
  refine r_ret (rs := [.tmp 6]) [_] Tryz.func4 rfl ⟨rfl, trivial⟩ ?_
  exact ⟨by first | rfl | exact congrArg Value.bool (decide_eq_true rfl), S19.le⟩

end Go.Proofs
