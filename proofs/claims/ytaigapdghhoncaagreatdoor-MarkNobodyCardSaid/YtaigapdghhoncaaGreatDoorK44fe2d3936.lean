/- Texts joined for claims: QNobody. -/
import Derived.Test.YtaigapdghhoncaaGreatDoorK782a42160b
import Derived.Test.YtaigapdghhoncaaGreatDoorK7a25717658
set_option linter.unusedVariables false
set_option linter.unusedSimpArgs false
set_option linter.unusedSectionVars false
/-
  The statement of MarkNobody: for every input the law returns true, and its arguments read as they did. The listed variables start as the program lays them, which the card ties to the text.
-/
namespace Go.Proofs
open Go Go.Vk Go.Vk.Flow

open Go.Vk.Mark
open Go.Vk.Deed (i64 rng rng_iff owners sumI sumI_cons sumI_snoc)
open Go.ChangeShapes Go.WideShapes Go.RowKit Go.Joins
namespace YtaigapdghhoncaaGreatDoor
set_option maxRecDepth 100000 in
theorem liftedNobody (os : Os) (started : os.Started) (H : Type) (enc : TypeId × Value → H) :
    ReturnsInHanded {} Tryz.checked os 7 .any (fun w args => (Rows.markNobodySpec.pre enc Tryz.prog Tryz.f7 Rows.markNobodyRow.domain false w args ∧ laidMetH Tryz.prog Rows.markNobodyRow.laid w) ∧ sizedMet enc Tryz.prog Tryz.f7 (OpenSpec.ofChange Rows.markNobodySpec) false w args)
      (Rows.markNobodySpec.post enc Tryz.prog Tryz.f7 false true false false) := by
  refine returnsIn_shaped_and (C := Tryz.checked) (X := fun w _ => laidMetH Tryz.prog Rows.markNobodyRow.laid w) (fun _ _ _ hh h => h.of_heap hh) ownT started (by kernel_rfl) Tryz.func7
    (ChangeSpec.witness_shaped (enc := enc) (C := Tryz.checked) (os := os) (X := fun w _ => laidMetH Tryz.prog Rows.markNobodyRow.laid w) false (World.laidAll Tryz.prog os Rows.markNobodyRow.laid) #[.agg #[.slice none 0 0, .slice none 0 0], .int .i64 0, .int .i64 0] 8 (World.laidAll_os _ _ _)
      (World.shaped_of_ZipB (by kernel_rfl) (by kernel_rfl)) (by kernel_rfl) (by kernel_rfl) (by kernel_rfl)
      (by rw [MakeChecks.laidMetH_plain _ _ _ (by kernel_rfl)]; exact laidMet_laidAll _ (by kernel_rfl) (by kernel_rfl))) ?_
  intro W base args ds gs before hval0 hW hsh
  have hG := gl_of hsh
  have hval : ∀ (j : Nat) t v, Tryz.f7.params[j]? = some t → args[j]? = some v → Value.okWide Tryz.prog W .any base t v := hval0
  have hW' := hW
  obtain ⟨p, q, hA0, hV, rfl, hfz, hnd⟩ := hW
  have hA : DataW.TrodAll enc Tryz.prog W 0 (fun _ => true) true Tryz.f7.params.toList args.toList ds p := hA0
  rw [Tryz.params7] at hA hval
  obtain ⟨v0, vs0, d0, ds0, p0, q0, hargs, rfl, rfl, h0, r0⟩ := trodAll_cons hA
  obtain ⟨v1, vs1, d1, ds1, p1, q1, rfl, rfl, rfl, h1, r1⟩ := trodAll_cons r0
  obtain ⟨v2, vs2, d2, ds2, p2, q2, rfl, rfl, rfl, h2, r2⟩ := trodAll_cons r1
  obtain ⟨rfl, rfl, rfl⟩ := trodAll_nil r2
  obtain rfl : args = #[v0, v1, v2] := by cases args; simp_all
  obtain ⟨rfl, rfl⟩ := trodVars_none hV
  obtain ⟨b0, vm0, vf0, rfl, hB0⟩ := openSmits (hval 0 25 v0 rfl rfl) h0
  obtain ⟨i1, rfl, rfl, rfl, w1⟩ := open_int Tryz.underlying3 (hval 1 3 v1 rfl rfl) h1
  obtain ⟨i2, rfl, rfl, rfl, w2⟩ := open_int Tryz.underlying3 (hval 2 3 v2 rfl rfl) h2
  clear hA0 hval0
  exact (lawNobody b0 vm0 vf0 i1 i2 (b64_of w1) (b64_of w2) W hB0 hG).mono fun v W' ⟨hv, hle⟩ => by
    subst hv
    exact post_law hW' laidT (by rw [Tryz.params7]; exact fun t ht => by revert t; decide +kernel) (by kernel_rfl) Tryz.underlying4 rfl rfl rfl rfl hle
theorem inPlNobody : Tryz.prog.inPlace 7 = ["internal/bytealg.CountString", "internal/bytealg.IndexByteString", "internal/bytealg.IndexString"] := by kernel_rfl
theorem unfNobody : Tryz.prog.unfollowed 7 = true := by kernel_rfl
theorem recNobody : Tryz.prog.recurses 7 = true := by unfold Program.recurses; rw [unfNobody]; rfl
theorem namNobody : Tryz.prog.varsNamed 7 = Rows.markNobodyRow.named := by kernel_rfl
theorem closedNobody : joinedFacts Tryz.prog 7 Tryz.f7 Rows.markNobodySpec Rows.markNobodyRow = true := by
  unfold joinedFacts
  rw [inPlNobody, unfNobody, recNobody, namNobody, mayT, liftT, makeT]
  kernel_rfl
theorem markNobodyRow_holds : Rows.MarkNobodySaid :=
  OpenClaim.holds_of_wide 7 Tryz.f7 rfl rfl rfl rfl rfl rfl rfl ⟨rfl, rfl, rfl, rfl, rfl⟩ rfl rfl rfl rfl rfl (by kernel_rfl) Tryz.func7 closedNobody
    (of_decide_eq_true (by kernel_rfl)) (by unfold Func.isWrapper; rw [if_neg (of_decide_eq_false (by kernel_rfl))]; exact ⟨rfl, rfl⟩)
    (fun os started H enc _ => liftedNobody os started H enc)
end YtaigapdghhoncaaGreatDoor

end Go.Proofs
