/-
  What the rows need: how arguments are opened.
-/
import Derived.Test.YtddapgjjndbejaaL0
import Derived.Test.YtddapgjjndbejaaRows
import Derived.Test.YtddapgjjndbejaaVkRow
namespace Go.Proofs
open Go Go.Vk Go.Vk.Flow

open Go.ChangeShapes Go.WideShapes Go.RowKit Go.Joins
theorem ownT : ownKnob Try.prog.godebug = none := by kernel_rfl
theorem laidT : laidOutB Try.prog = true := by kernel_rfl
theorem cellsA : Try.prog.cellsOf 39 = 6 := by kernel_rfl
theorem cellsN : Try.prog.cellsOf 24 = 2 := by kernel_rfl
theorem cellsO : Try.prog.cellsOf 43 = 2 := by kernel_rfl
section
variable {H : Type} {enc : TypeId × Value → H} {W : World} {base : Nat} {sp : Nat → Bool} {held : Bool} {r : Reach} {b0 : Nat}
theorem arcDec (fuel : Nat) (cs : List Value) (y : DataW H × List MemPlace) (hl : cs.length = EA.sz) (hy : DataW.trod enc Try.prog W base sp held fuel EA.T cs = some y) : ∃ a, cs = EA.enc a :=
  dec_arc Try.underlying39 Try.underlying3 cellsI (fun i hi => by
    match i, hi with
    | 0, _ => exact ⟨_, rfl, rfl, rfl⟩
    | 1, _ => exact ⟨_, rfl, rfl, rfl⟩
    | 2, _ => exact ⟨_, rfl, rfl, rfl⟩
    | 3, _ => exact ⟨_, rfl, rfl, rfl⟩
    | 4, _ => exact ⟨_, rfl, rfl, rfl⟩
    | 5, _ => exact ⟨_, rfl, rfl, rfl⟩) rfl fuel cs y hl hy
set_option maxRecDepth 100000 in
theorem openInts {v : Value} {d : DataW H} {p : List MemPlace} (hv : Value.okWide Try.prog W r b0 25 v) (h : DataW.Trod enc Try.prog W base sp held 25 v d p) : ∃ l, Rd EI W v l ∧ l.length ≤ maxLen := by
  obtain ⟨a, len, cap, rfl⟩ := okWide_slice Try.underlying25 hv
  obtain ⟨fuel, hf⟩ := h
  exact rd_of EI Try.underlying25 cellsI (fun fuel cs y hl hy => dec_int Try.underlying3 fuel cs y hl hy) hf
set_option maxRecDepth 100000 in
theorem openNet {v : Value} {d : DataW H} {p : List MemPlace} (hv : Value.okWide Try.prog W r b0 24 v) (h : DataW.Trod enc Try.prog W base sp held 24 v d p) : ∃ N va arcs, v = .agg #[.int .i64 N, va] ∧ Rd EA W va arcs ∧ arcs.length ≤ maxLen := by
  obtain ⟨v0, v1, y0, y1, n, rfl, _, _, h0, h1⟩ := open_agg2 Try.underlying24 (by kernel_rfl) cellsN hv h
  obtain ⟨N, e, _, _⟩ := DataW.trod_int Try.underlying3 h0
  simp at e
  subst e
  obtain ⟨l, hl, hm⟩ := rd_of EA Try.underlying22 cellsA arcDec h1
  exact ⟨N, v1, l, rfl, hl, hm⟩
set_option maxRecDepth 100000 in
theorem openObs {v : Value} {d : DataW H} {p : List MemPlace} (hv : Value.okWide Try.prog W r b0 43 v) (h : DataW.Trod enc Try.prog W base sp held 43 v d p) : ∃ A vn ns, v = .agg #[.int .i64 A, vn] ∧ Rd EI W vn ns ∧ ns.length ≤ maxLen := by
  obtain ⟨v0, v1, y0, y1, n, rfl, _, _, h0, h1⟩ := open_agg2 Try.underlying43 (by kernel_rfl) cellsO hv h
  obtain ⟨N, e, _, _⟩ := DataW.trod_int Try.underlying3 h0
  simp at e
  subst e
  obtain ⟨l, hl, hm⟩ := rd_of EI Try.underlying25 cellsI (fun fuel cs y hl hy => dec_int Try.underlying3 fuel cs y hl hy) h1
  exact ⟨N, v1, l, rfl, hl, hm⟩
end

end Go.Proofs
