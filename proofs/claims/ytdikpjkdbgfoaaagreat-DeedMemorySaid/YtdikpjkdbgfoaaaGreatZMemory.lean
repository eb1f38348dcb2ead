/-
  The statement of DeedMemory: for every input the law returns true, and its arguments read as they did. No condition.
-/
import Derived.Test.YtdikpjkdbgfoaaaGreatK7867e1294a
import Derived.Test.YtdikpjkdbgfoaaaGreatKa7aafb3f7c
/-
  The statement of DeedMemory: for every input the law returns true, and its arguments read as they did. No condition.
-/
namespace Go.Proofs
open Go Go.Vk Go.Vk.Flow

open Go.ChangeShapes Go.WideShapes Go.RowKit Go.Joins Go.Vk.Deed
namespace YtdikpjkdbgfoaaaGreat
set_option maxRecDepth 100000 in
theorem liftedMemory (os : Os) (started : os.Started) (H : Type) (enc : TypeId × Value → H) :
    ReturnsInHanded {} Tryz.checked os 12 .any (Rows.deedMemorySpec.pre6 enc Tryz.prog Tryz.f12 Rows.deedMemoryRow.domain false) (Rows.deedMemorySpec.post enc Tryz.prog Tryz.f12 false true false false) := by
  refine returnsInHanded_of_change (C := Tryz.checked) ownT started (by kernel_rfl) Tryz.func12
    (ChangeSpec.witness6 (enc := enc) (C := Tryz.checked) false ⟨#[], #[.slice none 0 0, .agg #[.int .i64 0, .int .i64 0, .int .i64 0, .int .u8 0, .int .i64 0, .int .i64 0, .int .i64 0, .int .i64 0, .int .i64 0, .slice none 0 0, .slice none 0 0], .int .i64 0], []⟩ 8 (by kernel_rfl) (by kernel_rfl) (by kernel_rfl) (by kernel_rfl)) ?_
  intro W base args ds gs before hval0 hW hcnd _
  have hval : ∀ (j : Nat) t v, Tryz.f12.params[j]? = some t → args[j]? = some v → Value.okWide Tryz.prog W .any base t v := hval0
  have hW' := hW
  obtain ⟨p, q, hA0, hV, rfl, hfz, hnd⟩ := hW
  have hA : DataW.TrodAll enc Tryz.prog W 0 (fun _ => true) true Tryz.f12.params.toList args.toList ds p := hA0
  rw [Tryz.params12] at hA hval
  obtain ⟨v0, vs0, d0, ds0, p0, q0, hargs, rfl, rfl, h0, r0⟩ := trodAll_cons hA
  obtain ⟨v1, vs1, d1, ds1, p1, q1, rfl, rfl, rfl, h1, r1⟩ := trodAll_cons r0
  obtain ⟨v2, vs2, d2, ds2, p2, q2, rfl, rfl, rfl, h2, r2⟩ := trodAll_cons r1
  obtain ⟨rfl, rfl, rfl⟩ := trodAll_nil r2
  obtain rfl : args = #[v0, v1, v2] := by cases args; simp_all
  obtain ⟨rfl, rfl⟩ := trodVars_none hV
  obtain ⟨rs0, hQ0, hm0⟩ := openDeeds (hval 0 23 v0 rfl rfl) h0
  obtain ⟨a1, rfl, hQ1⟩ := openDeed (hval 1 26 v1 rfl rfl) h1
  obtain ⟨i2, rfl, rfl, rfl, w2⟩ := open_int Tryz.underlying3 (hval 2 3 v2 rfl rfl) h2
  clear hA0 hval0
  exact (lawMemory rs0 v0 a1 i2 W hQ0 hQ1).mono fun v W' ⟨hv, hle⟩ => by
    subst hv
    exact post_law hW' laidT (by rw [Tryz.params12]; exact fun t ht => by revert t; decide +kernel) (by kernel_rfl) Tryz.underlying4 rfl rfl rfl rfl hle
theorem inPlMemory : Tryz.prog.inPlace 12 = [] := by kernel_rfl
theorem unfMemory : Tryz.prog.unfollowed 12 = true := by kernel_rfl
theorem recMemory : Tryz.prog.recurses 12 = true := by unfold Program.recurses; rw [unfMemory]; rfl
theorem namMemory : Tryz.prog.varsNamed 12 = [] := by kernel_rfl
theorem closedMemory : joinedFacts Tryz.prog 12 Tryz.f12 Rows.deedMemorySpec Rows.deedMemoryRow = true := by
  unfold joinedFacts
  rw [inPlMemory, unfMemory, recMemory, namMemory, mayT, liftT, makeT]
  kernel_rfl
/-- DeedMemory: whatever the input, the law returns true, and its arguments read as they did. -/
theorem deedMemory : Rows.DeedMemorySaid :=
  OpenClaim.holds_of_wide 12 Tryz.f12 rfl rfl rfl rfl rfl rfl rfl ⟨rfl, rfl, rfl, rfl, rfl⟩ rfl rfl rfl rfl rfl (by kernel_rfl) Tryz.func12 closedMemory
    (of_decide_eq_true (by kernel_rfl)) (by unfold Func.isWrapper; rw [if_neg (of_decide_eq_false (by kernel_rfl))]; exact ⟨rfl, rfl⟩)
    (fun os started H enc _ => liftedMemory os started H enc)
#print axioms deedMemory
end YtdikpjkdbgfoaaaGreat

end Go.Proofs
