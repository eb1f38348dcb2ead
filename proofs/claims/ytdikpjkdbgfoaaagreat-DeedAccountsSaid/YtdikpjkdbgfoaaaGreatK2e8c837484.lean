/- Texts joined for claims: LSums. -/
import Derived.Test.YtdikpjkdbgfoaaaGreatK91bd3dd908
set_option linter.unusedVariables false
set_option linter.unusedSimpArgs false
set_option linter.unusedSectionVars false
/-
  Contracts of functions of the program: each by symbolic execution of its text.
-/
namespace Go.Proofs
open Go Go.Vk Go.Vk.Flow

open Go.Vk.Deed
theorem map_sum_step {α : Type} {f : α → Int} {l : List α} {i : Nat} {a : α} (ha : l[i]? = some a) : sumI ((l.take (i + 1)).map f) = sumI ((l.take i).map f) + f a := by
  rw [List.take_add_one, ha, List.map_append]; exact Go.Vk.Deed.sumI_snoc
abbrev fS (day : Int) (x : D) : Int := if x.kind = 1 ∧ x.day ≤ day then x.parts else 0
end Go.Proofs
