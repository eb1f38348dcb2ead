/- Texts joined for claims: LDays. -/
import Derived.Test.YtdikpjkdbgfoaaaGreatK162766f591
set_option linter.unusedVariables false
set_option linter.unusedSimpArgs false
set_option linter.unusedSectionVars false
namespace Go.Proofs
open Go Go.Vk Go.Vk.Flow

open Go.Vk.Deed
theorem ls_len (l : List D) (known day : Int) : (leasesD l known day).length ≤ 400 := by
 unfold leasesD
 rw [List.length_mergeSort, List.length_map]
 exact Nat.le_trans (List.length_filter_le _ _) (on_stb l known day).ll
theorem ps_len (l : List D) (known day : Int) : (pledgesD l known day).length ≤ 400 := by
 unfold pledgesD
 rw [List.length_mergeSort]
 exact (on_stb l known day).pl

end Go.Proofs
