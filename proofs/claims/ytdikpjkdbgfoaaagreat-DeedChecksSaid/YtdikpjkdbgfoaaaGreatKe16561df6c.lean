/- Texts joined for claims: LDays. -/
import Derived.Test.YtdikpjkdbgfoaaaGreatKf341d88362
/-
  Contracts of functions of the program: each by symbolic execution of its text.
-/
namespace Go.Proofs
open Go Go.Vk Go.Vk.Flow

open Go.Vk.Deed
end Go.Proofs
