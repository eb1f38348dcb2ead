/- Texts joined for claims: LDays. -/
import Derived.Test.YtdikpjkdbgfoaaaGreatKe780c7f77a
set_option linter.unusedVariables false
set_option linter.unusedSimpArgs false
set_option linter.unusedSectionVars false
namespace Go.Proofs
open Go Go.Vk Go.Vk.Flow

open Go.Vk.Deed
theorem accs_len (s : St) (day : Int) : (accs s day).length ≤ 40 := by
 have h1 := List.length_filter_le (fun a : Acc => decide (a ≠ ⟨a.owner, 0, 0, 0, 0⟩)) (owners.map fun o => acc s o day)
 rw [List.length_map, owners_len] at h1
 exact h1
end Go.Proofs
