/- Texts joined for claims: LSums. -/
import Derived.Test.YtdikpjkdbgfoaaaGreatK162766f591
set_option linter.unusedVariables false
set_option linter.unusedSimpArgs false
set_option linter.unusedSectionVars false
namespace Go.Proofs
open Go Go.Vk Go.Vk.Flow

open Go.Vk.Deed
abbrev fS (day : Int) (x : D) : Int := if x.kind = 1 ∧ x.day ≤ day then x.parts else 0
end Go.Proofs
