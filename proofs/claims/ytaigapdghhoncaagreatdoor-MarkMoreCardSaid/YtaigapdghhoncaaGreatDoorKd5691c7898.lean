/- Texts joined for claims: G6. -/
import Derived.Test.YtaigapdghhoncaaGreatDoorK4937e3a03b
set_option linter.unusedVariables false
set_option linter.unusedSimpArgs false
set_option linter.unusedSectionVars false
/-
  Contracts of functions of the program: each by symbolic execution of its text.
-/
namespace Go.Proofs
open Go Go.Vk Go.Vk.Flow

open Go.Vk.Mark
open Go.Vk.Deed (i64 rng rng_iff owners sumI sumI_cons sumI_snoc)

/-- couchant/couchantlaw03.in. -/
theorem c_in9 (l : List Pr) (va : Value) (p : Pr) (hl : ∀ x ∈ l, B64 x.1 ∧ B64 x.2) (hp : B64 p.1 ∧ B64 p.2) (hm : l.length ≤ 1000000) (w : World) (hA : Rd EPR w va l) :
    Cl Tryz.prog 26 #[va, Value.agg (encPr p).toArray] w fun v w' => v = .bool (decide (p ∈ l)) ∧ Le w w' := by
  refine fn_of_run (args := [_, _]) 18 Tryz.func26 rfl rfl rfl fun cs => ?_
  have S := Own.start (X := nob) w
  refine r_seq ?_
  refine r_region ?_
  refine l_box S rfl rfl ?_
  intro b4 w1 S2 hl3
  refine l_x rfl (x_as rfl) ?_
  refine l_nil ?_
  refine r_seq ?_
  refine r_seq ?_
  refine r_region ?_
  refine l_x rfl (x_as rfl) ?_
  refine l_nil ?_
  refine r_block ?_
  refine r_loop (G := Nat) (fun i => l.length - i) (fun i => [(0, va), (3, .pointer (some ⟨b4, 0, none⟩)), (5, Value.int .i64 i)]) (fun i w' => (i ≤ l.length) ∧ (¬ p ∈ l.take i) ∧ Own nob w w' [blk b4 (encPr p) 48]) 0 ⟨rfl, rfl, rfl, trivial⟩ ⟨Nat.zero_le _, by simp, S2⟩ ?_
  rintro i ρ w1 ⟨hi, hn, S1⟩ IH
  refine r_seq ?_
  refine r_seq ?_
  refine r_region ?_
  refine l_x rfl (x_mv rfl) ?_
  refine l_x rfl (x_mv rfl) ?_
  refine l_x rfl (x_len (hA.le S1.le) rfl Tryz.runUnderlying43) ?_
  refine l_x rfl (x_lss rfl rfl) ?_
  refine l_nil ?_
  refine r_ifd rfl (fun hc9 => ?_) (fun hc9 => ?_)
  · skip
    obtain ⟨x, hx⟩ : ∃ x, l[i]? = some x := ⟨_, List.getElem?_eq_getElem (by omega)⟩
    refine r_skip ?_
    refine r_seq ?_
    refine r_block ?_
    refine r_seq ?_
    refine r_drawR 6 Tryz.mixed (by kernel_rfl) ?_
    refine w_x rfl (fun w1 h1 => x_mv rfl) ?_
    refine w_x rfl (fun w1 h1 => x_mv rfl) ?_
    refine w_index EPR rfl (hA.le S1.le) rfl rfl Tryz.runUnderlying43 Tryz.sizeOf48 (by omega) hx ?_
    intro b5 o6 hat7 row8
    refine w_x rfl (fun w1 h1 => x_load rfl (ld_row Tryz.isAgg48 Tryz.sizeOf48 rfl (row8.le h1))) ?_
    refine w_x rfl (fun w1 h1 => x_load rfl (ld_blks ((S1.step h1).blk 0 rfl) Tryz.isAgg48 Tryz.sizeOf48 rfl rfl)) ?_
    refine w_x rfl (fun w1 h1 => x_eqS keyPr (hl x (List.mem_of_getElem? hx)) hp rfl rfl) ?_
    refine w_nil ?_
    intro w9 hl10
    have S11 := S1.step hl10
    refine l_nil ?_
    refine r_ifd rfl (fun hc17 => ?_) (fun hc17 => ?_)
    · skip
      refine r_seq ?_
      refine r_region ?_
      refine l_x rfl (x_as rfl) ?_
      refine l_nil ?_
      refine r_ret (rs := [.tmp 4]) [_] Tryz.func26 rfl ⟨rfl, trivial⟩ ?_
      exact ⟨congrArg Value.bool (decide_eq_true (by rw [← hc17]; exact List.mem_of_getElem? hx)).symm, S11.le⟩
    refine r_skip ?_
    refine r_inBlock ?_
    refine r_region ?_
    refine l_x rfl (x_mv rfl) ?_
    refine l_x rfl (x_add rfl rfl (by omega)) ?_
    refine l_x rfl (x_as rfl) ?_
    refine l_nil ?_
    exact IH (i + 1) _ _ (by omega) ⟨rfl, rfl, rfl, trivial⟩ ⟨by omega, not_take9 hn hx (fun h => hc17 h.symm), (S11.take 1)⟩
  obtain rfl : i = l.length := by omega
  refine r_exit rfl ?_
  refine r_seq ?_
  refine r_region ?_
  refine l_x rfl (x_as rfl) ?_
  refine l_nil ?_
  refine r_ret (rs := [.tmp 4]) [_] Tryz.func26 rfl ⟨rfl, trivial⟩ ?_
  exact ⟨congrArg Value.bool (decide_eq_false (by rwa [List.take_length] at hn)).symm, S1.le⟩

end Go.Proofs
