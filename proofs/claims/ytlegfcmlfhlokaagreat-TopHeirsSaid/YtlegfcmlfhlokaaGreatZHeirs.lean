/-
  The statement of TopHeirs: for every input the law returns true, and its arguments read as they did. No condition.
-/
import Derived.Test.YtlegfcmlfhlokaaGreatK575456e6fd
import Derived.Test.YtlegfcmlfhlokaaGreatK1286523b7e
set_option linter.unusedVariables false
set_option linter.unusedSimpArgs false
set_option linter.unusedSectionVars false
/-
  The statement of TopHeirs: for every input the law returns true, and its arguments read as they did. No condition.
-/
namespace Go.Proofs
open Go Go.Vk Go.Vk.Flow

open Go.ChangeShapes Go.WideShapes Go.RowKit Go.Joins Go.Vk.Deed
namespace YtlegfcmlfhlokaaGreat
set_option maxRecDepth 100000 in
theorem liftedHeirs (os : Os) (started : os.Started) (H : Type) (enc : TypeId × Value → H) :
    ReturnsInHanded {} Tryz.checked os 3 .any (Rows.topHeirsSpec.pre6 enc Tryz.prog Tryz.f3 Rows.topHeirsRow.domain false) (Rows.topHeirsSpec.post enc Tryz.prog Tryz.f3 false true false false) := by
  refine returnsInHanded_of_change (C := Tryz.checked) ownT started (by kernel_rfl) Tryz.func3
    (ChangeSpec.witness6 (enc := enc) (C := Tryz.checked) false ⟨#[], #[.slice none 0 0, .int .i64 0, .int .i64 0, .int .i64 0, .slice none 0 0], []⟩ 8 (by kernel_rfl) (by kernel_rfl) (by kernel_rfl) (by kernel_rfl)) ?_
  intro W base args ds gs before hval0 hW hcnd _
  have hval : ∀ (j : Nat) t v, Tryz.f3.params[j]? = some t → args[j]? = some v → Value.okWide Tryz.prog W .any base t v := hval0
  have hW' := hW
  obtain ⟨p, q, hA0, hV, rfl, hfz, hnd⟩ := hW
  have hA : DataW.TrodAll enc Tryz.prog W 0 (fun _ => true) true Tryz.f3.params.toList args.toList ds p := hA0
  rw [Tryz.params3] at hA hval
  obtain ⟨v0, vs0, d0, ds0, p0, q0, hargs, rfl, rfl, h0, r0⟩ := trodAll_cons hA
  obtain ⟨v1, vs1, d1, ds1, p1, q1, rfl, rfl, rfl, h1, r1⟩ := trodAll_cons r0
  obtain ⟨v2, vs2, d2, ds2, p2, q2, rfl, rfl, rfl, h2, r2⟩ := trodAll_cons r1
  obtain ⟨v3, vs3, d3, ds3, p3, q3, rfl, rfl, rfl, h3, r3⟩ := trodAll_cons r2
  obtain ⟨v4, vs4, d4, ds4, p4, q4, rfl, rfl, rfl, h4, r4⟩ := trodAll_cons r3
  obtain ⟨rfl, rfl, rfl⟩ := trodAll_nil r4
  obtain rfl : args = #[v0, v1, v2, v3, v4] := by cases args; simp_all
  obtain ⟨rfl, rfl⟩ := trodVars_none hV
  obtain ⟨rs0, hQ0, hm0⟩ := openDeeds (hval 0 22 v0 rfl rfl) h0
  obtain ⟨i1, rfl, rfl, rfl, w1⟩ := open_int Tryz.underlying3 (hval 1 3 v1 rfl rfl) h1
  obtain ⟨i2, rfl, rfl, rfl, w2⟩ := open_int Tryz.underlying3 (hval 2 3 v2 rfl rfl) h2
  obtain ⟨i3, rfl, rfl, rfl, w3⟩ := open_int Tryz.underlying3 (hval 3 3 v3 rfl rfl) h3
  obtain ⟨l4, hQ4, hm4⟩ := openInts (hval 4 23 v4 rfl rfl) h4
  clear hA0 hval0
  exact (lawHeirs rs0 v0 i1 i2 i3 l4 v4 hm4 W hQ0 hQ4).mono fun v W' ⟨hv, hle⟩ => by
    subst hv
    exact post_law hW' laidT (by rw [Tryz.params3]; exact fun t ht => by revert t; decide +kernel) (by kernel_rfl) Tryz.underlying4 rfl rfl rfl rfl hle
theorem inPlHeirs : Tryz.prog.inPlace 3 = [] := by kernel_rfl
theorem unfHeirs : Tryz.prog.unfollowed 3 = true := by kernel_rfl
theorem recHeirs : Tryz.prog.recurses 3 = true := by unfold Program.recurses; rw [unfHeirs]; rfl
theorem namHeirs : Tryz.prog.varsNamed 3 = [] := by kernel_rfl
theorem closedHeirs : joinedFacts Tryz.prog 3 Tryz.f3 Rows.topHeirsSpec Rows.topHeirsRow = true := by
  unfold joinedFacts
  rw [inPlHeirs, unfHeirs, recHeirs, namHeirs, mayT, liftT, makeT]
  kernel_rfl
/-- TopHeirs: whatever the input, the law returns true, and its arguments read as they did. -/
theorem topHeirs : Rows.TopHeirsSaid :=
  OpenClaim.holds_of_wide 3 Tryz.f3 rfl rfl rfl rfl rfl rfl rfl ⟨rfl, rfl, rfl, rfl, rfl⟩ rfl rfl rfl rfl rfl (by kernel_rfl) Tryz.func3 closedHeirs
    (of_decide_eq_true (by kernel_rfl)) (by unfold Func.isWrapper; rw [if_neg (of_decide_eq_false (by kernel_rfl))]; exact ⟨rfl, rfl⟩)
    (fun os started H enc _ => liftedHeirs os started H enc)
#print axioms topHeirs
end YtlegfcmlfhlokaaGreat

end Go.Proofs
