/- Texts joined for claims: LBound. -/
import Derived.Test.YtdikpjkdbgfoaaaGreatK02afaedb64
import Derived.Test.YtdikpjkdbgfoaaaGreatKa0b28afff3
set_option linter.unusedVariables false
set_option linter.unusedSimpArgs false
set_option linter.unusedSectionVars false
namespace Go.Proofs
open Go Go.Vk Go.Vk.Flow

open Go.Vk.Deed
section
variable {l : List D} {known day o : Int}
end
end Go.Proofs
