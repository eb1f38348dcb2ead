/- Texts joined for claims: LReaches. -/
import Derived.Test.YtlegfcmlfhlokaaGreatK96cfb22e54
set_option linter.unusedVariables false
set_option linter.unusedSimpArgs false
set_option linter.unusedSectionVars false
/-
  Contracts of functions of the program: each by symbolic execution of its text.
-/
namespace Go.Proofs
open Go Go.Vk Go.Vk.Flow

open Go.Vk.Deed
theorem lin_len (l : List D) (known day o : Int) (hR : rightD l = true) : (lineageD l known day o).length ≤ 1000000 := by
  unfold lineageD
  split
  · have hP : Part (counting l known).length (startL l (counting l known) day o) := ⟨_, rfl⟩
    have h1 := nodup_le (part_nd (lin_part (l := l) hP (counting l known).length)) fun k hk => List.mem_range.2 (part_lt (lin_part (l := l) hP (counting l known).length) k hk)
    rw [List.length_range] at h1
    have h2 := count_len (known := known) hR
    unfold Go.Vk.Deed.asc
    rw [List.length_mergeSort, List.length_map]
    exact Nat.le_trans h1 (by omega)
  exact Nat.zero_le _


end Go.Proofs
