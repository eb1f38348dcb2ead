/- Texts joined for claims: LSums. -/
import Derived.Test.YtlegfcmlfhlokaaGreatK96cfb22e54
set_option linter.unusedVariables false
set_option linter.unusedSimpArgs false
set_option linter.unusedSectionVars false
/-
  Contracts of functions of the program: each by symbolic execution of its text.
-/
namespace Go.Proofs
open Go Go.Vk Go.Vk.Flow

open Go.Vk.Deed
theorem map_sum_step {α : Type} {f : α → Int} {l : List α} {i : Nat} {a : α} (ha : l[i]? = some a) : sumI ((l.take (i + 1)).map f) = sumI ((l.take i).map f) + f a := by
  rw [List.take_add_one, ha, List.map_append]; exact Go.Vk.Deed.sumI_snoc
theorem map_sum_bd {α : Type} {f : α → Int} {l : List α} {B : Int} (h : ∀ x ∈ l, 0 ≤ f x ∧ f x ≤ B) (i : Nat) : 0 ≤ sumI ((l.take i).map f) ∧ sumI ((l.take i).map f) ≤ B * (l.take i).length := by
  have := sumI_bd (l := (l.take i).map f) (B := B) fun x hx => by
    obtain ⟨y, hy, rfl⟩ := List.mem_map.1 hx
    exact h y (List.mem_of_mem_take hy)
  rwa [List.length_map] at this
abbrev fS (day : Int) (x : D) : Int := if x.kind = 1 ∧ x.day ≤ day then x.parts else 0
theorem fS_bd {day : Int} {x : D} (h : formed x = true) : 0 ≤ fS day x ∧ fS day x ≤ 1000000000 := by
  unfold fS
  split
  · next k => have := formed_parts h k.1; omega
  omega


end Go.Proofs
