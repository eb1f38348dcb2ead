/- The proof engine, part 17: regions that draw their order and write what they have made. Generic over the program. -/
import Derived.Test.YtddapgjjndbejaaVkCopy
namespace Go.Vk
open Go

/-- The blocks made since. -/
def yng (w : World) : Nat → Prop := fun b => w.heap.size ≤ b

section
variable {X : Nat → Prop} {w0 w w1 w2 : World} {L : List Rsc}
theorem Own.yng (S : Own X w0 w L) (h : Keep (Vk.yng w) w w1) : Own X w0 w1 L := by
  have h' : Le w w1 := ⟨h.os, h.tape, h.output, h.size, fun b hb _ => h.block b hb (Nat.not_le_of_gt hb)⟩
  exact S.step h'
theorem yng_blk {b : Nat} (h : Keep (Vk.yng w) w w1) (hb : w1.heap.size ≤ b) {u u' : World} (hk : Keep (· = b) u u') : Keep (Vk.yng w) u u' :=
  hk.mono fun c _ e => by subst e; exact Nat.le_trans h.size hb
end

section
variable {P : Program} {n : Nat} {all : Array Oper} {ρ : Env} {w : World} {d : Nat} {ty : TypeId} {pos : String} {af : Array Edge} {g : Option (Nat × Bool)} {T : TypeId} {x : Operand} {Φ : Value → World → Prop}
theorem s_allocY {X : Nat → Prop} {w0 : World} {L : List Rsc} {c : List Value} {z : Value} (S : Own X w0 w L) (hg : gOk all n ρ g = true) (hz : ∀ w, (zeroValue T).run P w = .ok z w) (hx : z.cells = c.toArray)
    (h : ∀ b' w', Own X w0 w' (L ++ [blk b' c T]) → Le w w' → w.heap.size ≤ b' → Φ (.pointer (some ⟨b', 0, none⟩)) w') :
    Sp P all n ρ ⟨some d, .alloc T, ty, pos, af, g⟩ w Φ := by
  refine s_x hg (v := .pointer (some ⟨w.heap.size, 0, none⟩)) (w' := w.alloc (.cells c.toArray T (0, 0))) ⟨nofun, fun _ _ _ _ => ?_⟩ (h _ _ (S.alloc c T) (Le.alloc_cells _ _ _) (Nat.le_refl _))
  simp only [execOp, Instr.alloc, Sem.run_bind, hz, run_newVar, Result.andThen_ok, Sem.run_pure, hx]
end
end Go.Vk
