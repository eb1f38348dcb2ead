/- The proof engine, part 18: what is no longer needed is forgotten. Generic over the program. -/
import Derived.Test.YtddapgjjndbejaaVkYoung
namespace Go.Vk
open Go
section
variable {P : Program} {b : Frame} {cs : List Frame} {fin : Machine → Prop} {n : Nat} {k : List Item} {ρ : Env} {ds : List Deferred} {w : World}
/-- Of the slots these alone are known from here on. -/
theorem r_forget (sl : List (Nat × Value)) (ha : Agree ρ sl) (h : ∀ ρ, Run P b cs fin n k (upds ρ sl) ds w) : Run P b cs fin n k ρ ds w := by
  have := h ρ
  rwa [upds_agree ha] at this
end
end Go.Vk
