/- Texts joined for claims: R0. -/
import Derived.Test.YtaigapdghhoncaaGreatDoorK03526182db
import Derived.Test.YtaigapdghhoncaaGreatDoorRows
import Derived.Test.YtaigapdghhoncaaGreatDoorTie
import Derived.Test.YtaigapdghhoncaaGreatDoorCards
import Derived.Test.YtaigapdghhoncaaGreatDoorKc4c8240fd3
import Derived.ProofKit
import Derived.OpenShut
import Derived.LaidMore
import Derived.Lay
import Derived.SevenTiedAt
import Derived.Stop.Joined
set_option linter.unusedVariables false
set_option linter.unusedSimpArgs false
set_option linter.unusedSectionVars false
namespace Go.Proofs
open Go Go.Vk Go.Vk.Flow

open Go.Vk.Mark
open Go.Vk.Deed (i64 rng rng_iff owners sumI sumI_cons sumI_snoc)
open Go.ChangeShapes Go.WideShapes Go.RowKit Go.Joins
theorem ownT : ownKnob Tryz.prog.godebug = none := by kernel_rfl
theorem headsT : (Tryz.prog.mayEnter && (false == Tryz.prog.liftsFinal) && (Tryz.prog.make == some .cut)) = true := by kernel_rfl
theorem mayT : Tryz.prog.mayEnter = true := by
 have h := headsT
 rw [Bool.and_eq_true, Bool.and_eq_true] at h
 exact h.1.1
theorem liftT : Tryz.prog.liftsFinal = false := by
 have h := headsT
 rw [Bool.and_eq_true, Bool.and_eq_true] at h
 exact (beq_iff_eq.1 h.1.2).symm
theorem makeT : Tryz.prog.make = some .cut := by
 have h := headsT
 rw [Bool.and_eq_true, Bool.and_eq_true] at h
 exact beq_iff_eq.1 h.2
theorem cellsSm : Tryz.prog.cellsOf 25 = 2 := by kernel_rfl
theorem cellsLM : Tryz.prog.cellsOf 22 = 1 := by kernel_rfl
theorem cellsLF : Tryz.prog.cellsOf 23 = 1 := by kernel_rfl
theorem gl_of {W : World} (hsh : W.ShapedOpen Tryz.prog) : Gl W :=
 cell_of_shapedOpen_int (P := Tryz.prog) (g := 1) (t := 3) (zero := #[.int .i64 0]) hsh (of_decide_eq_true (by kernel_rfl)) (by kernel_rfl) rfl (by kernel_rfl) (by kernel_rfl) Tryz.underlying3
section
variable {H : Type} {enc : TypeId × Value → H} {W : World} {base : Nat} {sp : Nat → Bool} {held : Bool} {r : Reach} {b0 : Nat}
set_option maxRecDepth 100000 in
theorem dec_sg (fuel : Nat) (cs : List Value) (y : DataW H × List MemPlace) (h : DataW.trod enc Tryz.prog W base sp held fuel 28 cs = some y) : ∃ s, cs = encSg s ∧ SgOk s := by
 obtain ⟨xs, m, _, _, hl, hx, hel⟩ := DataW.trod_array Tryz.underlying28 h
 rw [cellsG] at hl
 have key : ∀ i, i < 6 → ∃ z : Int, (cs.drop i).take 1 = [.int .u8 z] ∧ B8 z := by
  intro i hi
  have h1 := hel i hi
  rw [cells5, Nat.mul_one, List.getElem?_eq_getElem (by omega)] at h1
  obtain ⟨z, hz, _, hw⟩ := DataW.trod_int Tryz.underlying5 h1
  exact ⟨z, hz, b8_of hw⟩
 match cs, hl with
 | [c0, c1, c2, c3, c4, c5], _ =>
  obtain ⟨z0, e0, b0⟩ := key 0 (by decide)
  obtain ⟨z1, e1, b1⟩ := key 1 (by decide)
  obtain ⟨z2, e2, b2⟩ := key 2 (by decide)
  obtain ⟨z3, e3, b3⟩ := key 3 (by decide)
  obtain ⟨z4, e4, b4⟩ := key 4 (by decide)
  obtain ⟨z5, e5, b5⟩ := key 5 (by decide)
  simp at e0 e1 e2 e3 e4 e5
  subst e0; subst e1; subst e2; subst e3; subst e4; subst e5
  exact ⟨⟨z0, z1, z2, z3, z4, z5⟩, rfl, ⟨b0, b1, b2, b3, b4, b5⟩⟩
set_option maxRecDepth 100000 in
theorem dec_si (fuel : Nat) (cs : List Value) (y : DataW H × List MemPlace) (_ : cs.length = 6) (h : DataW.trod enc Tryz.prog W base sp held fuel 30 cs = some y) : ∃ s, cs = encSg s ∧ SgOk s := by
 obtain ⟨y0, n, _, hl, h0⟩ := trod_struct1 Tryz.underlying30 h
 have e : (cs.drop 0).take (Tryz.prog.cellsOf 28) = cs := by rw [cellsG, List.drop_zero, List.take_of_length_le (by omega)]
 have h1 : DataW.trod enc Tryz.prog W base sp held n 28 ((cs.drop 0).take (Tryz.prog.cellsOf 28)) = some y0 := h0
 rw [e] at h1
 exact dec_sg _ _ _ h1
set_option maxRecDepth 100000 in
theorem dec_mk (fuel : Nat) (cs : List Value) (y : DataW H × List MemPlace) (hl : cs.length = 9) (h : DataW.trod enc Tryz.prog W base sp held fuel 39 cs = some y) : ∃ a, cs = encMk a ∧ MkOk a := by
 obtain ⟨xs, n, _, _, _, hx, hf⟩ := DataW.trod_struct Tryz.underlying39 h
 have key : ∀ i, i < 3 → ∃ z : Int, (cs.drop i).take 1 = [.int .i64 z] ∧ B64 z := by
  intro i hi
  have h1 : DataW.trod enc Tryz.prog W base sp held n 3 ((cs.drop i).take (Tryz.prog.cellsOf 3)) = xs[i]? := by
   match i, hi with
   | 0, _ => exact hf 0 _ rfl
   | 1, _ => exact hf 1 _ rfl
   | 2, _ => exact hf 2 _ rfl
  have hxl : xs.length = 4 := hx
  rw [cellsI, List.getElem?_eq_getElem (by omega)] at h1
  obtain ⟨z, hz, _, hw⟩ := DataW.trod_int Tryz.underlying3 h1
  exact ⟨z, hz, b64_of hw⟩
 have h3 : DataW.trod enc Tryz.prog W base sp held n 28 ((cs.drop 3).take (Tryz.prog.cellsOf 28)) = xs[3]? := hf 3 _ rfl
 have hxl : xs.length = 4 := hx
 rw [cellsG, List.getElem?_eq_getElem (by omega)] at h3
 obtain ⟨s, hs, hok⟩ := dec_sg _ _ _ h3
 match cs, hl with
 | [c0, c1, c2, c3, c4, c5, c6, c7, c8], _ =>
  obtain ⟨z0, e0, b0⟩ := key 0 (by decide)
  obtain ⟨z1, e1, b1⟩ := key 1 (by decide)
  obtain ⟨z2, e2, b2⟩ := key 2 (by decide)
  simp at e0 e1 e2
  subst e0; subst e1; subst e2
  refine ⟨⟨z0, z1, z2, s⟩, ?_, ⟨b0, b1, b2, hok⟩⟩
  have hs' : [c3, c4, c5, c6, c7, c8] = encSg s := hs
  show [i64 z0, i64 z1, i64 z2] ++ [c3, c4, c5, c6, c7, c8] = [i64 z0, i64 z1, i64 z2] ++ encSg s
  rw [hs']
set_option maxRecDepth 100000 in
theorem dec_fd (fuel : Nat) (cs : List Value) (y : DataW H × List MemPlace) (hl : cs.length = 2) (h : DataW.trod enc Tryz.prog W base sp held fuel 41 cs = some y) : ∃ a, cs = encFd a ∧ FdOk a := by
 obtain ⟨y0, y1, n, _, _, h0, h1⟩ := trod_struct2 Tryz.underlying41 h
 have g0 : DataW.trod enc Tryz.prog W base sp held n 5 ((cs.drop 0).take (Tryz.prog.cellsOf 5)) = some y0 := h0
 have g1 : DataW.trod enc Tryz.prog W base sp held n 5 ((cs.drop 1).take (Tryz.prog.cellsOf 5)) = some y1 := h1
 rw [cells5] at g0 g1
 obtain ⟨z0, e0, _, w0⟩ := DataW.trod_int Tryz.underlying5 g0
 obtain ⟨z1, e1, _, w1⟩ := DataW.trod_int Tryz.underlying5 g1
 match cs, hl with
 | [c0, c1], _ =>
  simp at e0 e1
  subst e0; subst e1
  exact ⟨⟨z0, z1⟩, rfl, ⟨b8_of w0, b8_of w1⟩⟩
set_option maxRecDepth 100000 in
theorem openSmits {v : Value} {d : DataW H} {p : List MemPlace} (hv : Value.okWide Tryz.prog W r b0 25 v) (h : DataW.Trod enc Tryz.prog W base sp held 25 v d p) : ∃ b vm vf, v = .agg #[vm, vf] ∧ SmR 39 41 W vm vf b := by
 obtain ⟨cs, rfl, hsz⟩ := okWide_struct Tryz.underlying25 hv
 obtain ⟨fuel, hf⟩ := h
 obtain ⟨y0, y1, n, _, _, h0, h1⟩ := trod_struct2 Tryz.underlying25 hf
 have g0 : DataW.trod enc Tryz.prog W base sp held n 22 ((cs.toList.drop 0).take (Tryz.prog.cellsOf 22)) = some y0 := h0
 have g1 : DataW.trod enc Tryz.prog W base sp held n 23 ((cs.toList.drop 1).take (Tryz.prog.cellsOf 23)) = some y1 := h1
 rw [cellsLM] at g0
 rw [cellsLF] at g1
 rw [cellsSm] at hsz
 obtain ⟨l⟩ := cs
 match l, hsz with
 | [c0, c1], _ =>
  have g0 : DataW.trod enc Tryz.prog W base sp held n 22 [c0] = some y0 := g0
  have g1 : DataW.trod enc Tryz.prog W base sp held n 23 [c1] = some y1 := g1
  obtain ⟨l0, q1, q2, q3⟩ := rd_ofQ EMK MkOk Tryz.underlying22 cellsM dec_mk g0
  obtain ⟨l1, q4, q5, q6⟩ := rd_ofQ EFD FdOk Tryz.underlying23 cellsF dec_fd g1
  exact ⟨⟨l0, l1⟩, c0, c1, rfl, ⟨q1, q4, q3, q6, by unfold maxLen at q2; exact Nat.le_trans q2 (by decide), by unfold maxLen at q5; exact Nat.le_trans q5 (by decide)⟩⟩
set_option maxRecDepth 100000 in
theorem openSights {v : Value} {d : DataW H} {p : List MemPlace} (hv : Value.okWide Tryz.prog W r b0 50 v) (h : DataW.Trod enc Tryz.prog W base sp held 50 v d p) : ∃ l, Rd ESG W v l ∧ l.length ≤ 9223372036854775807 ∧ ∀ s ∈ l, SgOk s := by
 obtain ⟨a, len, cap, rfl⟩ := okWide_slice Tryz.underlying50 hv
 obtain ⟨fuel, hf⟩ := h
 obtain ⟨l, q1, q2, q3⟩ := rd_ofQ ESG SgOk Tryz.underlying50 cellsS dec_si hf
 exact ⟨l, q1, by unfold maxLen at q2; exact Nat.le_trans q2 (by decide), q3⟩
end

end Go.Proofs
