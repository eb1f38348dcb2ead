/- The statement of DeedLists: for every input the law returns true, and its arguments read as they did. -/
import Derived.Test.YtdikpjkdbgfoaaaGreatK162766f591
import Derived.Test.YtdikpjkdbgfoaaaGreatK44f95bb04c
set_option linter.unusedVariables false
set_option linter.unusedSimpArgs false
set_option linter.unusedSectionVars false
namespace Go.Proofs
open Go Go.Vk Go.Vk.Flow

open Go.ChangeShapes Go.WideShapes Go.RowKit Go.Joins Go.Vk.Deed
namespace YtdikpjkdbgfoaaaGreat
set_option maxRecDepth 100000 in
theorem liftedLists (os : Os) (started : os.Started) (H : Type) (enc : TypeId × Value → H) :
  ReturnsInHanded {} Tryz.checked os 14 .any (Rows.deedListsSpec.pre6 enc Tryz.prog Tryz.f14 Rows.deedListsRow.domain false) (Rows.deedListsSpec.post enc Tryz.prog Tryz.f14 false true false false) := by
 refine returnsInHanded_of_change (C := Tryz.checked) ownT started (by kernel_rfl) Tryz.func14
  (ChangeSpec.witness6 (enc := enc) (C := Tryz.checked) false ⟨#[], #[.slice none 0 0, .int .i64 0, .int .i64 0], []⟩ 8 (by kernel_rfl) (by kernel_rfl) (by kernel_rfl) (by kernel_rfl)) ?_
 intro W base args ds gs before hval0 hW hcnd _
 have hval : ∀ (j : Nat) t v, Tryz.f14.params[j]? = some t → args[j]? = some v → Value.okWide Tryz.prog W .any base t v := hval0
 have hW' := hW
 obtain ⟨p, q, hA0, hV, rfl, hfz, hnd⟩ := hW
 have hA : DataW.TrodAll enc Tryz.prog W 0 (fun _ => true) true Tryz.f14.params.toList args.toList ds p := hA0
 rw [Tryz.params14] at hA hval
 obtain ⟨v0, vs0, d0, ds0, p0, q0, hargs, rfl, rfl, h0, r0⟩ := trodAll_cons hA
 obtain ⟨v1, vs1, d1, ds1, p1, q1, rfl, rfl, rfl, h1, r1⟩ := trodAll_cons r0
 obtain ⟨v2, vs2, d2, ds2, p2, q2, rfl, rfl, rfl, h2, r2⟩ := trodAll_cons r1
 obtain ⟨rfl, rfl, rfl⟩ := trodAll_nil r2
 obtain rfl : args = #[v0, v1, v2] := by cases args; simp_all
 obtain ⟨rfl, rfl⟩ := trodVars_none hV
 obtain ⟨rs0, hQ0, hm0⟩ := openDeeds (hval 0 23 v0 rfl rfl) h0
 obtain ⟨i1, rfl, rfl, rfl, w1⟩ := open_int Tryz.underlying3 (hval 1 3 v1 rfl rfl) h1
 obtain ⟨i2, rfl, rfl, rfl, w2⟩ := open_int Tryz.underlying3 (hval 2 3 v2 rfl rfl) h2
 clear hA0 hval0
 exact (lawLists rs0 v0 i1 i2 W hQ0).mono fun v W' ⟨hv, hle⟩ => by
  subst hv
  exact post_law hW' laidT (by rw [Tryz.params14]; exact fun t ht => by revert t; decide +kernel) (by kernel_rfl) Tryz.underlying4 rfl rfl rfl rfl hle
theorem inPlLists : Tryz.prog.inPlace 14 = [] := by kernel_rfl
theorem unfLists : Tryz.prog.unfollowed 14 = true := by kernel_rfl
theorem recLists : Tryz.prog.recurses 14 = true := by unfold Program.recurses; rw [unfLists]; rfl
theorem namLists : Tryz.prog.varsNamed 14 = [] := by kernel_rfl
theorem closedLists : joinedFacts Tryz.prog 14 Tryz.f14 Rows.deedListsSpec Rows.deedListsRow = true := by
 unfold joinedFacts
 rw [inPlLists, unfLists, recLists, namLists, mayT, liftT, makeT]
 kernel_rfl
theorem deedLists : Rows.DeedListsSaid :=
 OpenClaim.holds_of_wide 14 Tryz.f14 rfl rfl rfl rfl rfl rfl rfl ⟨rfl, rfl, rfl, rfl, rfl⟩ rfl rfl rfl rfl rfl (by kernel_rfl) Tryz.func14 closedLists
  (of_decide_eq_true (by kernel_rfl)) (by unfold Func.isWrapper; rw [if_neg (of_decide_eq_false (by kernel_rfl))]; exact ⟨rfl, rfl⟩)
  (fun os started H enc _ => liftedLists os started H enc)
#print axioms deedLists
end YtdikpjkdbgfoaaaGreat

end Go.Proofs
