/-
  The statement of DeedAccounts: for every input the law returns true, and its arguments read as they did. No condition.
-/
import Derived.Test.YtdikpjkdbgfoaaaGreatK91bd3dd908
import Derived.Test.YtdikpjkdbgfoaaaGreatK0486b4e3fa
set_option linter.unusedVariables false
set_option linter.unusedSimpArgs false
set_option linter.unusedSectionVars false
/-
  The statement of DeedAccounts: for every input the law returns true, and its arguments read as they did. No condition.
-/
namespace Go.Proofs
open Go Go.Vk Go.Vk.Flow

open Go.ChangeShapes Go.WideShapes Go.RowKit Go.Joins Go.Vk.Deed
namespace YtdikpjkdbgfoaaaGreat
set_option maxRecDepth 100000 in
theorem liftedAccounts (os : Os) (started : os.Started) (H : Type) (enc : TypeId × Value → H) :
    ReturnsInHanded {} Tryz.checked os 13 .any (Rows.deedAccountsSpec.pre6 enc Tryz.prog Tryz.f13 Rows.deedAccountsRow.domain false) (Rows.deedAccountsSpec.post enc Tryz.prog Tryz.f13 false true false false) := by
  refine returnsInHanded_of_change (C := Tryz.checked) ownT started (by kernel_rfl) Tryz.func13
    (ChangeSpec.witness6 (enc := enc) (C := Tryz.checked) false ⟨#[], #[.slice none 0 0, .int .i64 0, .int .i64 0, .int .i64 0], []⟩ 8 (by kernel_rfl) (by kernel_rfl) (by kernel_rfl) (by kernel_rfl)) ?_
  intro W base args ds gs before hval0 hW hcnd _
  have hval : ∀ (j : Nat) t v, Tryz.f13.params[j]? = some t → args[j]? = some v → Value.okWide Tryz.prog W .any base t v := hval0
  have hW' := hW
  obtain ⟨p, q, hA0, hV, rfl, hfz, hnd⟩ := hW
  have hA : DataW.TrodAll enc Tryz.prog W 0 (fun _ => true) true Tryz.f13.params.toList args.toList ds p := hA0
  rw [Tryz.params13] at hA hval
  obtain ⟨v0, vs0, d0, ds0, p0, q0, hargs, rfl, rfl, h0, r0⟩ := trodAll_cons hA
  obtain ⟨v1, vs1, d1, ds1, p1, q1, rfl, rfl, rfl, h1, r1⟩ := trodAll_cons r0
  obtain ⟨v2, vs2, d2, ds2, p2, q2, rfl, rfl, rfl, h2, r2⟩ := trodAll_cons r1
  obtain ⟨v3, vs3, d3, ds3, p3, q3, rfl, rfl, rfl, h3, r3⟩ := trodAll_cons r2
  obtain ⟨rfl, rfl, rfl⟩ := trodAll_nil r3
  obtain rfl : args = #[v0, v1, v2, v3] := by cases args; simp_all
  obtain ⟨rfl, rfl⟩ := trodVars_none hV
  obtain ⟨rs0, hQ0, hm0⟩ := openDeeds (hval 0 23 v0 rfl rfl) h0
  obtain ⟨i1, rfl, rfl, rfl, w1⟩ := open_int Tryz.underlying3 (hval 1 3 v1 rfl rfl) h1
  obtain ⟨i2, rfl, rfl, rfl, w2⟩ := open_int Tryz.underlying3 (hval 2 3 v2 rfl rfl) h2
  obtain ⟨i3, rfl, rfl, rfl, w3⟩ := open_int Tryz.underlying3 (hval 3 3 v3 rfl rfl) h3
  clear hA0 hval0
  exact (lawAccounts rs0 v0 i1 i2 i3 W hQ0).mono fun v W' ⟨hv, hle⟩ => by
    subst hv
    exact post_law hW' laidT (by rw [Tryz.params13]; exact fun t ht => by revert t; decide +kernel) (by kernel_rfl) Tryz.underlying4 rfl rfl rfl rfl hle
theorem inPlAccounts : Tryz.prog.inPlace 13 = [] := by kernel_rfl
theorem unfAccounts : Tryz.prog.unfollowed 13 = true := by kernel_rfl
theorem recAccounts : Tryz.prog.recurses 13 = true := by unfold Program.recurses; rw [unfAccounts]; rfl
theorem namAccounts : Tryz.prog.varsNamed 13 = [] := by kernel_rfl
theorem closedAccounts : joinedFacts Tryz.prog 13 Tryz.f13 Rows.deedAccountsSpec Rows.deedAccountsRow = true := by
  unfold joinedFacts
  rw [inPlAccounts, unfAccounts, recAccounts, namAccounts, mayT, liftT, makeT]
  kernel_rfl
/-- DeedAccounts: whatever the input, the law returns true, and its arguments read as they did. -/
theorem deedAccounts : Rows.DeedAccountsSaid :=
  OpenClaim.holds_of_wide 13 Tryz.f13 rfl rfl rfl rfl rfl rfl rfl ⟨rfl, rfl, rfl, rfl, rfl⟩ rfl rfl rfl rfl rfl (by kernel_rfl) Tryz.func13 closedAccounts
    (of_decide_eq_true (by kernel_rfl)) (by unfold Func.isWrapper; rw [if_neg (of_decide_eq_false (by kernel_rfl))]; exact ⟨rfl, rfl⟩)
    (fun os started H enc _ => liftedAccounts os started H enc)
#print axioms deedAccounts
end YtdikpjkdbgfoaaaGreat

end Go.Proofs
