/- Texts joined for claims: R0. -/
import Derived.Test.YtaigapdghhoncaaGreatDoorKa3f0850865
import Derived.Test.YtaigapdghhoncaaGreatDoorRows
import Derived.Test.YtaigapdghhoncaaGreatDoorTie
import Derived.Test.YtaigapdghhoncaaGreatDoorCards
import Derived.Test.YtaigapdghhoncaaGreatDoorK6d2c2eb465
import Derived.ProofKit
import Derived.OpenShut
import Derived.LaidMore
import Derived.Lay
import Derived.SevenTiedAt
import Derived.Stop.Joined
set_option linter.unusedVariables false
set_option linter.unusedSimpArgs false
set_option linter.unusedSectionVars false
namespace Go.Proofs
open Go Go.Vk Go.Vk.Flow

open Go.Vk.Mark
open Go.Vk.Deed (i64 rng rng_iff owners sumI sumI_cons sumI_snoc)
open Go.ChangeShapes Go.WideShapes Go.RowKit Go.Joins
theorem ownT : ownKnob Tryz.prog.godebug = none := by kernel_rfl
theorem headsT : (Tryz.prog.mayEnter && (false == Tryz.prog.liftsFinal) && (Tryz.prog.make == some .cut)) = true := by kernel_rfl
theorem mayT : Tryz.prog.mayEnter = true := by
 have h := headsT
 rw [Bool.and_eq_true, Bool.and_eq_true] at h
 exact h.1.1
theorem liftT : Tryz.prog.liftsFinal = false := by
 have h := headsT
 rw [Bool.and_eq_true, Bool.and_eq_true] at h
 exact (beq_iff_eq.1 h.1.2).symm
theorem makeT : Tryz.prog.make = some .cut := by
 have h := headsT
 rw [Bool.and_eq_true, Bool.and_eq_true] at h
 exact beq_iff_eq.1 h.2
theorem gl_of {W : World} (hsh : W.ShapedOpen Tryz.prog) : Gl W :=
 cell_of_shapedOpen_int (P := Tryz.prog) (g := 1) (t := 3) (zero := #[.int .i64 0]) hsh (of_decide_eq_true (by kernel_rfl)) (by kernel_rfl) rfl (by kernel_rfl) (by kernel_rfl) Tryz.underlying3
section
variable {H : Type} {enc : TypeId × Value → H} {W : World} {base : Nat} {sp : Nat → Bool} {held : Bool} {r : Reach} {b0 : Nat}
set_option maxRecDepth 100000 in
theorem dec_sg (fuel : Nat) (cs : List Value) (y : DataW H × List MemPlace) (h : DataW.trod enc Tryz.prog W base sp held fuel 28 cs = some y) : ∃ s, cs = encSg s ∧ SgOk s := by
 obtain ⟨xs, m, _, _, hl, hx, hel⟩ := DataW.trod_array Tryz.underlying28 h
 rw [cellsG] at hl
 have key : ∀ i, i < 6 → ∃ z : Int, (cs.drop i).take 1 = [.int .u8 z] ∧ B8 z := by
  intro i hi
  have h1 := hel i hi
  rw [cells5, Nat.mul_one, List.getElem?_eq_getElem (by omega)] at h1
  obtain ⟨z, hz, _, hw⟩ := DataW.trod_int Tryz.underlying5 h1
  exact ⟨z, hz, b8_of hw⟩
 match cs, hl with
 | [c0, c1, c2, c3, c4, c5], _ =>
  obtain ⟨z0, e0, b0⟩ := key 0 (by decide)
  obtain ⟨z1, e1, b1⟩ := key 1 (by decide)
  obtain ⟨z2, e2, b2⟩ := key 2 (by decide)
  obtain ⟨z3, e3, b3⟩ := key 3 (by decide)
  obtain ⟨z4, e4, b4⟩ := key 4 (by decide)
  obtain ⟨z5, e5, b5⟩ := key 5 (by decide)
  simp at e0 e1 e2 e3 e4 e5
  subst e0; subst e1; subst e2; subst e3; subst e4; subst e5
  exact ⟨⟨z0, z1, z2, z3, z4, z5⟩, rfl, ⟨b0, b1, b2, b3, b4, b5⟩⟩
set_option maxRecDepth 100000 in
theorem dec_si (fuel : Nat) (cs : List Value) (y : DataW H × List MemPlace) (_ : cs.length = 6) (h : DataW.trod enc Tryz.prog W base sp held fuel 30 cs = some y) : ∃ s, cs = encSg s ∧ SgOk s := by
 obtain ⟨y0, n, _, hl, h0⟩ := trod_struct1 Tryz.underlying30 h
 have e : (cs.drop 0).take (Tryz.prog.cellsOf 28) = cs := by rw [cellsG, List.drop_zero, List.take_of_length_le (by omega)]
 have h1 : DataW.trod enc Tryz.prog W base sp held n 28 ((cs.drop 0).take (Tryz.prog.cellsOf 28)) = some y0 := h0
 rw [e] at h1
 exact dec_sg _ _ _ h1
set_option maxRecDepth 100000 in
theorem dec_mk (fuel : Nat) (cs : List Value) (y : DataW H × List MemPlace) (hl : cs.length = 9) (h : DataW.trod enc Tryz.prog W base sp held fuel 39 cs = some y) : ∃ a, cs = encMk a ∧ MkOk a := by
 obtain ⟨xs, n, _, _, _, hx, hf⟩ := DataW.trod_struct Tryz.underlying39 h
 have key : ∀ i, i < 3 → ∃ z : Int, (cs.drop i).take 1 = [.int .i64 z] ∧ B64 z := by
  intro i hi
  have h1 : DataW.trod enc Tryz.prog W base sp held n 3 ((cs.drop i).take (Tryz.prog.cellsOf 3)) = xs[i]? := by
   match i, hi with
   | 0, _ => exact hf 0 _ rfl
   | 1, _ => exact hf 1 _ rfl
   | 2, _ => exact hf 2 _ rfl
  have hxl : xs.length = 4 := hx
  rw [cellsI, List.getElem?_eq_getElem (by omega)] at h1
  obtain ⟨z, hz, _, hw⟩ := DataW.trod_int Tryz.underlying3 h1
  exact ⟨z, hz, b64_of hw⟩
 have h3 : DataW.trod enc Tryz.prog W base sp held n 28 ((cs.drop 3).take (Tryz.prog.cellsOf 28)) = xs[3]? := hf 3 _ rfl
 have hxl : xs.length = 4 := hx
 rw [cellsG, List.getElem?_eq_getElem (by omega)] at h3
 obtain ⟨s, hs, hok⟩ := dec_sg _ _ _ h3
 match cs, hl with
 | [c0, c1, c2, c3, c4, c5, c6, c7, c8], _ =>
  obtain ⟨z0, e0, b0⟩ := key 0 (by decide)
  obtain ⟨z1, e1, b1⟩ := key 1 (by decide)
  obtain ⟨z2, e2, b2⟩ := key 2 (by decide)
  simp at e0 e1 e2
  subst e0; subst e1; subst e2
  refine ⟨⟨z0, z1, z2, s⟩, ?_, ⟨b0, b1, b2, hok⟩⟩
  have hs' : [c3, c4, c5, c6, c7, c8] = encSg s := hs
  show [i64 z0, i64 z1, i64 z2] ++ [c3, c4, c5, c6, c7, c8] = [i64 z0, i64 z1, i64 z2] ++ encSg s
  rw [hs']
set_option maxRecDepth 100000 in
theorem openSight {v : Value} {d : DataW H} {p : List MemPlace} (hv : Value.okWide Tryz.prog W r b0 30 v) (h : DataW.Trod enc Tryz.prog W base sp held 30 v d p) : ∃ s, v = .agg (encSg s).toArray ∧ SgOk s := by
 obtain ⟨cs, rfl, hsz⟩ := okWide_struct Tryz.underlying30 hv
 obtain ⟨fuel, hf⟩ := h
 obtain ⟨s, hs, hok⟩ := dec_si fuel cs.toList _ (by rw [Array.length_toList, hsz, cellsS]) hf
 exact ⟨s, by rw [← hs], hok⟩
set_option maxRecDepth 100000 in
theorem openMark {v : Value} {d : DataW H} {p : List MemPlace} (hv : Value.okWide Tryz.prog W r b0 39 v) (h : DataW.Trod enc Tryz.prog W base sp held 39 v d p) : ∃ s, v = .agg (encMk s).toArray ∧ MkOk s := by
 obtain ⟨cs, rfl, hsz⟩ := okWide_struct Tryz.underlying39 hv
 obtain ⟨fuel, hf⟩ := h
 obtain ⟨s, hs, hok⟩ := dec_mk fuel cs.toList _ (by rw [Array.length_toList, hsz, cellsM]) hf
 exact ⟨s, by rw [← hs], hok⟩
end

end Go.Proofs
