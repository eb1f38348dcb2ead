/- Texts joined for claims: LPossible. -/
import Derived.Test.YtdikpjkdbgfoaaaGreatK4b8a3de83f
import Derived.Test.YtdikpjkdbgfoaaaGreatKe780c7f77a
set_option linter.unusedVariables false
set_option linter.unusedSimpArgs false
set_option linter.unusedSectionVars false
namespace Go.Proofs
open Go Go.Vk Go.Vk.Flow

open Go.Vk.Deed

theorem c_rhas (l : List Int) (vl : Value) (x : Int) (hm : l.length ≤ 9223372036854775807) (w : World) (hL : Rd EI w vl l) :
  Cl Tryz.prog 84 #[vl, .int .i64 x] w fun v w' => v = .bool (l.contains x) ∧ Le w w' := by
 refine fn_of_run (args := [_, _]) 18 Tryz.func84 rfl rfl rfl fun cs => ?_
 have S := Own.start (X := nob) w
 refine r_seq ?_
 refine r_region ?_
 refine l_a rfl ?_
 refine l_nil ?_
 refine r_seq ?_
 refine r_seq ?_
 refine r_region ?_
 refine l_a rfl ?_
 refine l_nil ?_
 refine r_block ?_
 refine r_loop (G := Nat) (fun i => l.length - i) (fun i => [(0, vl), (1, .int .i64 x), (5, .int .i64 i)]) (fun i w' => (i ≤ l.length) ∧ (∀ y ∈ l.take i, decide (y = x) = false) ∧ Own nob w w' []) 0 ⟨rfl, rfl, rfl, trivial⟩ ⟨Nat.zero_le _, by simp, S⟩ ?_
 rintro i ρ w1 ⟨hi, hno, S1⟩ IH
 refine r_seq ?_
 refine r_seq ?_
 refine r_region ?_
 refine l_m rfl ?_
 refine l_m rfl ?_
 refine l_x rfl (x_len (hL.le S1.le) rfl Tryz.runUnderlying24) ?_
 refine l_x rfl (x_lss rfl rfl) ?_
 refine l_nil ?_
 refine r_ifd rfl (fun hc9 => ?_) (fun hc9 => ?_)
 ·skip
  obtain ⟨a, ha⟩ : ∃ a, l[i]? = some a := ⟨_, List.getElem?_eq_getElem (by omega)⟩
  refine r_skip ?_
  refine r_seq ?_
  refine r_block ?_
  refine r_seq ?_
  refine r_region ?_
  refine l_m rfl ?_
  refine l_m rfl ?_
  refine l_index EI rfl (hL.le S1.le) rfl rfl Tryz.runUnderlying24 Tryz.sizeOf3 (by omega) (by first | assumption | exact List.getElem?_eq_getElem (by omega)) ?_
  intro b1 o2 hat3 row4
  refine l_x rfl (x_load rfl (ld_cell Tryz.isAgg3 (row4 0 _ rfl))) ?_
  refine l_m rfl ?_
  refine l_x rfl (x_eql rfl rfl) ?_
  refine l_nil ?_
  refine r_ifd rfl (fun hc17 => ?_) (fun hc17 => ?_)
  ·skip
   refine r_seq ?_
   refine r_region ?_
   refine l_a rfl ?_
   refine l_nil ?_
   refine r_ret (rs := [.tmp 4]) [_] Tryz.func84 rfl ⟨rfl, trivial⟩ ?_
   exact ⟨congrArg Value.bool (List.contains_iff_mem.2 (hc17 ▸ List.mem_of_getElem? ha)).symm, S1.le⟩
  refine r_skip ?_
  refine r_inBlock ?_
  refine r_region ?_
  refine l_m rfl ?_
  refine l_x rfl (x_add rfl rfl (by omega)) ?_
  refine l_a rfl ?_
  refine l_nil ?_
  exact IH (i + 1) _ _ (by omega) ⟨rfl, rfl, rfl, trivial⟩ ⟨by omega, ix_step hno ha hc17, S1⟩
 obtain rfl : i = l.length := by omega
 rw [List.take_length] at hno
 refine r_exit rfl ?_
 refine r_seq ?_
 refine r_region ?_
 refine l_a rfl ?_
 refine l_nil ?_
 refine r_ret (rs := [.tmp 4]) [_] Tryz.func84 rfl ⟨rfl, trivial⟩ ?_
 exact ⟨congrArg Value.bool (no_contains hno).symm, S1.le⟩

end Go.Proofs
