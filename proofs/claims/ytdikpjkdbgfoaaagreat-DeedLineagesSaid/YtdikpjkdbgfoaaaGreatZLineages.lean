/- The statement of DeedLineages: for every input the law returns true, and its arguments read as they did. -/
import Derived.Test.YtdikpjkdbgfoaaaGreatKe780c7f77a
import Derived.Test.YtdikpjkdbgfoaaaGreatK16ad66fc5e
set_option linter.unusedVariables false
set_option linter.unusedSimpArgs false
set_option linter.unusedSectionVars false
namespace Go.Proofs
open Go Go.Vk Go.Vk.Flow

open Go.ChangeShapes Go.WideShapes Go.RowKit Go.Joins Go.Vk.Deed
namespace YtdikpjkdbgfoaaaGreat
set_option maxRecDepth 100000 in
theorem liftedLineages (os : Os) (started : os.Started) (H : Type) (enc : TypeId × Value → H) :
  ReturnsInHanded {} Tryz.checked os 19 .any (Rows.deedLineagesSpec.pre6 enc Tryz.prog Tryz.f19 Rows.deedLineagesRow.domain false) (Rows.deedLineagesSpec.post enc Tryz.prog Tryz.f19 false true false false) := by
 refine returnsInHanded_of_change (C := Tryz.checked) ownT started (by kernel_rfl) Tryz.func19
  (ChangeSpec.witness6 (enc := enc) (C := Tryz.checked) false ⟨#[], #[.slice none 0 0, .int .i64 0, .int .i64 0, .int .i64 0, .slice none 0 0], []⟩ 8 (by kernel_rfl) (by kernel_rfl) (by kernel_rfl) (by kernel_rfl)) ?_
 intro W base args ds gs before hval0 hW hcnd _
 have hval : ∀ (j : Nat) t v, Tryz.f19.params[j]? = some t → args[j]? = some v → Value.okWide Tryz.prog W .any base t v := hval0
 have hW' := hW
 obtain ⟨p, q, hA0, hV, rfl, hfz, hnd⟩ := hW
 have hA : DataW.TrodAll enc Tryz.prog W 0 (fun _ => true) true Tryz.f19.params.toList args.toList ds p := hA0
 rw [Tryz.params19] at hA hval
 obtain ⟨v0, vs0, d0, ds0, p0, q0, hargs, rfl, rfl, h0, r0⟩ := trodAll_cons hA
 obtain ⟨v1, vs1, d1, ds1, p1, q1, rfl, rfl, rfl, h1, r1⟩ := trodAll_cons r0
 obtain ⟨v2, vs2, d2, ds2, p2, q2, rfl, rfl, rfl, h2, r2⟩ := trodAll_cons r1
 obtain ⟨v3, vs3, d3, ds3, p3, q3, rfl, rfl, rfl, h3, r3⟩ := trodAll_cons r2
 obtain ⟨v4, vs4, d4, ds4, p4, q4, rfl, rfl, rfl, h4, r4⟩ := trodAll_cons r3
 obtain ⟨rfl, rfl, rfl⟩ := trodAll_nil r4
 obtain rfl : args = #[v0, v1, v2, v3, v4] := by cases args; simp_all
 obtain ⟨rfl, rfl⟩ := trodVars_none hV
 obtain ⟨rs0, hQ0, hm0⟩ := openDeeds (hval 0 23 v0 rfl rfl) h0
 obtain ⟨i1, rfl, rfl, rfl, w1⟩ := open_int Tryz.underlying3 (hval 1 3 v1 rfl rfl) h1
 obtain ⟨i2, rfl, rfl, rfl, w2⟩ := open_int Tryz.underlying3 (hval 2 3 v2 rfl rfl) h2
 obtain ⟨i3, rfl, rfl, rfl, w3⟩ := open_int Tryz.underlying3 (hval 3 3 v3 rfl rfl) h3
 obtain ⟨l4, hQ4, hm4⟩ := openInts (hval 4 24 v4 rfl rfl) h4
 clear hA0 hval0
 exact (lawLineages rs0 v0 i1 i2 i3 l4 v4 W hQ0 hQ4).mono fun v W' ⟨hv, hle⟩ => by
  subst hv
  exact post_law hW' laidT (by rw [Tryz.params19]; exact fun t ht => by revert t; decide +kernel) (by kernel_rfl) Tryz.underlying4 rfl rfl rfl rfl hle
theorem inPlLineages : Tryz.prog.inPlace 19 = [] := by kernel_rfl
theorem unfLineages : Tryz.prog.unfollowed 19 = true := by kernel_rfl
theorem recLineages : Tryz.prog.recurses 19 = true := by unfold Program.recurses; rw [unfLineages]; rfl
theorem namLineages : Tryz.prog.varsNamed 19 = [] := by kernel_rfl
theorem closedLineages : joinedFacts Tryz.prog 19 Tryz.f19 Rows.deedLineagesSpec Rows.deedLineagesRow = true := by
 unfold joinedFacts
 rw [inPlLineages, unfLineages, recLineages, namLineages, mayT, liftT, makeT]
 kernel_rfl
theorem deedLineages : Rows.DeedLineagesSaid :=
 OpenClaim.holds_of_wide 19 Tryz.f19 rfl rfl rfl rfl rfl rfl rfl ⟨rfl, rfl, rfl, rfl, rfl⟩ rfl rfl rfl rfl rfl (by kernel_rfl) Tryz.func19 closedLineages
  (of_decide_eq_true (by kernel_rfl)) (by unfold Func.isWrapper; rw [if_neg (of_decide_eq_false (by kernel_rfl))]; exact ⟨rfl, rfl⟩)
  (fun os started H enc _ => liftedLineages os started H enc)
#print axioms deedLineages
end YtdikpjkdbgfoaaaGreat

end Go.Proofs
