/-
  The statement of DeedOrders: for every input the law returns true, and its arguments read as they did. No condition.
-/
import Derived.Test.YtdikpjkdbgfoaaaGreatKa412596e49
import Derived.Test.YtdikpjkdbgfoaaaGreatK556a7125e7
set_option linter.unusedVariables false
set_option linter.unusedSimpArgs false
set_option linter.unusedSectionVars false
/-
  The statement of DeedOrders: for every input the law returns true, and its arguments read as they did. No condition.
-/
namespace Go.Proofs
open Go Go.Vk Go.Vk.Flow

open Go.ChangeShapes Go.WideShapes Go.RowKit Go.Joins Go.Vk.Deed
namespace YtdikpjkdbgfoaaaGreat
set_option maxRecDepth 100000 in
theorem liftedOrders (os : Os) (started : os.Started) (H : Type) (enc : TypeId × Value → H) :
    ReturnsInHanded {} Tryz.checked os 9 .any (Rows.deedOrdersSpec.pre6 enc Tryz.prog Tryz.f9 Rows.deedOrdersRow.domain false) (Rows.deedOrdersSpec.post enc Tryz.prog Tryz.f9 false true false false) := by
  refine returnsInHanded_of_change (C := Tryz.checked) ownT started (by kernel_rfl) Tryz.func9
    (ChangeSpec.witness6 (enc := enc) (C := Tryz.checked) false ⟨#[], #[.slice none 0 0, .int .i64 0], []⟩ 8 (by kernel_rfl) (by kernel_rfl) (by kernel_rfl) (by kernel_rfl)) ?_
  intro W base args ds gs before hval0 hW hcnd _
  have hval : ∀ (j : Nat) t v, Tryz.f9.params[j]? = some t → args[j]? = some v → Value.okWide Tryz.prog W .any base t v := hval0
  have hW' := hW
  obtain ⟨p, q, hA0, hV, rfl, hfz, hnd⟩ := hW
  have hA : DataW.TrodAll enc Tryz.prog W 0 (fun _ => true) true Tryz.f9.params.toList args.toList ds p := hA0
  rw [Tryz.params9] at hA hval
  obtain ⟨v0, vs0, d0, ds0, p0, q0, hargs, rfl, rfl, h0, r0⟩ := trodAll_cons hA
  obtain ⟨v1, vs1, d1, ds1, p1, q1, rfl, rfl, rfl, h1, r1⟩ := trodAll_cons r0
  obtain ⟨rfl, rfl, rfl⟩ := trodAll_nil r1
  obtain rfl : args = #[v0, v1] := by cases args; simp_all
  obtain ⟨rfl, rfl⟩ := trodVars_none hV
  obtain ⟨rs0, hQ0, hm0⟩ := openDeeds (hval 0 23 v0 rfl rfl) h0
  obtain ⟨i1, rfl, rfl, rfl, w1⟩ := open_int Tryz.underlying3 (hval 1 3 v1 rfl rfl) h1
  clear hA0 hval0
  exact (lawOrders rs0 v0 i1 W hQ0).mono fun v W' ⟨hv, hle⟩ => by
    subst hv
    exact post_law hW' laidT (by rw [Tryz.params9]; exact fun t ht => by revert t; decide +kernel) (by kernel_rfl) Tryz.underlying4 rfl rfl rfl rfl hle
theorem inPlOrders : Tryz.prog.inPlace 9 = [] := by kernel_rfl
theorem unfOrders : Tryz.prog.unfollowed 9 = true := by kernel_rfl
theorem recOrders : Tryz.prog.recurses 9 = true := by unfold Program.recurses; rw [unfOrders]; rfl
theorem namOrders : Tryz.prog.varsNamed 9 = [] := by kernel_rfl
theorem closedOrders : joinedFacts Tryz.prog 9 Tryz.f9 Rows.deedOrdersSpec Rows.deedOrdersRow = true := by
  unfold joinedFacts
  rw [inPlOrders, unfOrders, recOrders, namOrders, mayT, liftT, makeT]
  kernel_rfl
/-- DeedOrders: whatever the input, the law returns true, and its arguments read as they did. -/
theorem deedOrders : Rows.DeedOrdersSaid :=
  OpenClaim.holds_of_wide 9 Tryz.f9 rfl rfl rfl rfl rfl rfl rfl ⟨rfl, rfl, rfl, rfl, rfl⟩ rfl rfl rfl rfl rfl (by kernel_rfl) Tryz.func9 closedOrders
    (of_decide_eq_true (by kernel_rfl)) (by unfold Func.isWrapper; rw [if_neg (of_decide_eq_false (by kernel_rfl))]; exact ⟨rfl, rfl⟩)
    (fun os started H enc _ => liftedOrders os started H enc)
#print axioms deedOrders
end YtdikpjkdbgfoaaaGreat

end Go.Proofs
