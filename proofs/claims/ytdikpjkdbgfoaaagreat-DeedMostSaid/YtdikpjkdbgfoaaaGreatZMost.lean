/-
  The statement of DeedMost: for every input the law returns true, and its arguments read as they did. No condition.
-/
import Derived.Test.YtdikpjkdbgfoaaaGreatKdffaecee19
import Derived.Test.YtdikpjkdbgfoaaaGreatK5b4c2313b9
/-
  The statement of DeedMost: for every input the law returns true, and its arguments read as they did. No condition.
-/
namespace Go.Proofs
open Go Go.Vk Go.Vk.Flow

open Go.ChangeShapes Go.WideShapes Go.RowKit Go.Joins Go.Vk.Deed
namespace YtdikpjkdbgfoaaaGreat
set_option maxRecDepth 100000 in
theorem liftedMost (os : Os) (started : os.Started) (H : Type) (enc : TypeId × Value → H) :
    ReturnsInHanded {} Tryz.checked os 3 .any (Rows.deedMostSpec.pre6 enc Tryz.prog Tryz.f3 Rows.deedMostRow.domain false) (Rows.deedMostSpec.post enc Tryz.prog Tryz.f3 false true false false) := by
  refine returnsInHanded_of_change (C := Tryz.checked) ownT started (by kernel_rfl) Tryz.func3
    (ChangeSpec.witness6 (enc := enc) (C := Tryz.checked) false ⟨#[], #[.int .i64 0, .int .i64 0], []⟩ 8 (by kernel_rfl) (by kernel_rfl) (by kernel_rfl) (by kernel_rfl)) ?_
  intro W base args ds gs before hval0 hW hcnd _
  have hval : ∀ (j : Nat) t v, Tryz.f3.params[j]? = some t → args[j]? = some v → Value.okWide Tryz.prog W .any base t v := hval0
  have hW' := hW
  obtain ⟨p, q, hA0, hV, rfl, hfz, hnd⟩ := hW
  have hA : DataW.TrodAll enc Tryz.prog W 0 (fun _ => true) true Tryz.f3.params.toList args.toList ds p := hA0
  rw [Tryz.params3] at hA hval
  obtain ⟨v0, vs0, d0, ds0, p0, q0, hargs, rfl, rfl, h0, r0⟩ := trodAll_cons hA
  obtain ⟨v1, vs1, d1, ds1, p1, q1, rfl, rfl, rfl, h1, r1⟩ := trodAll_cons r0
  obtain ⟨rfl, rfl, rfl⟩ := trodAll_nil r1
  obtain rfl : args = #[v0, v1] := by cases args; simp_all
  obtain ⟨rfl, rfl⟩ := trodVars_none hV
  obtain ⟨i0, rfl, rfl, rfl, w0⟩ := open_int Tryz.underlying3 (hval 0 3 v0 rfl rfl) h0
  obtain ⟨i1, rfl, rfl, rfl, w1⟩ := open_int Tryz.underlying3 (hval 1 3 v1 rfl rfl) h1
  clear hA0 hval0
  exact (lawMost i0 i1 W ).mono fun v W' ⟨hv, hle⟩ => by
    subst hv
    exact post_law hW' laidT (by rw [Tryz.params3]; exact fun t ht => by revert t; decide +kernel) (by kernel_rfl) Tryz.underlying4 rfl rfl rfl rfl hle
theorem inPlMost : Tryz.prog.inPlace 3 = [] := by kernel_rfl
theorem unfMost : Tryz.prog.unfollowed 3 = true := by kernel_rfl
theorem recMost : Tryz.prog.recurses 3 = true := by unfold Program.recurses; rw [unfMost]; rfl
theorem namMost : Tryz.prog.varsNamed 3 = [] := by kernel_rfl
theorem closedMost : joinedFacts Tryz.prog 3 Tryz.f3 Rows.deedMostSpec Rows.deedMostRow = true := by
  unfold joinedFacts
  rw [inPlMost, unfMost, recMost, namMost, mayT, liftT, makeT]
  kernel_rfl
/-- DeedMost: whatever the input, the law returns true, and its arguments read as they did. -/
theorem deedMost : Rows.DeedMostSaid :=
  OpenClaim.holds_of_wide 3 Tryz.f3 rfl rfl rfl rfl rfl rfl rfl ⟨rfl, rfl, rfl, rfl, rfl⟩ rfl rfl rfl rfl rfl (by kernel_rfl) Tryz.func3 closedMost
    (of_decide_eq_true (by kernel_rfl)) (by unfold Func.isWrapper; rw [if_neg (of_decide_eq_false (by kernel_rfl))]; exact ⟨rfl, rfl⟩)
    (fun os started H enc _ => liftedMost os started H enc)
#print axioms deedMost
end YtdikpjkdbgfoaaaGreat

end Go.Proofs
