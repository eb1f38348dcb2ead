/- Texts joined for claims: QTexts. -/
import Derived.Test.YtaigapdghhoncaaGreatDoorK7a325aec7b
import Derived.Test.YtaigapdghhoncaaGreatDoorK0709bddfd5
import Derived.Test.YtaigapdghhoncaaGreatDoorKc809f8f999
set_option linter.unusedVariables false
set_option linter.unusedSimpArgs false
set_option linter.unusedSectionVars false
namespace Go.Proofs
open Go Go.Vk Go.Vk.Flow

open Go.Vk.Mark
open Go.Vk.Deed (i64 rng rng_iff owners sumI sumI_cons sumI_snoc)
open Go.ChangeShapes Go.WideShapes Go.RowKit Go.Joins
namespace YtaigapdghhoncaaGreatDoor
set_option maxRecDepth 100000 in
theorem liftedTexts (os : Os) (started : os.Started) (H : Type) (enc : TypeId × Value → H) :
  ReturnsInHanded {} Tryz.checked os 18 .any (fun w args => (Rows.markTextsSpec.pre enc Tryz.prog Tryz.f18 Rows.markTextsRow.domain false w args ∧ laidMetH Tryz.prog Rows.markTextsRow.laid w) ∧ sizedMet enc Tryz.prog Tryz.f18 (OpenSpec.ofChange Rows.markTextsSpec) false w args)
   (Rows.markTextsSpec.post enc Tryz.prog Tryz.f18 false true false false) := by
 refine returnsIn_laid_and (C := Tryz.checked) (X := fun w _ => laidMetH Tryz.prog Rows.markTextsRow.laid w) (fun _ _ _ hh h => h.of_heap hh) ownT started (by kernel_rfl) Tryz.func18
  (ChangeSpec.witness_shaped (enc := enc) (C := Tryz.checked) (os := os) (X := fun w _ => laidMetH Tryz.prog Rows.markTextsRow.laid w) false (World.laidAll Tryz.prog os Rows.markTextsRow.laid) #[.agg #[.int .i64 0, .int .i64 0, .int .i64 0, .int .u8 0, .int .u8 0, .int .u8 0, .int .u8 0, .int .u8 0, .int .u8 0], .agg #[.int .u8 0, .int .u8 0, .int .u8 0, .int .u8 0, .int .u8 0, .int .u8 0], .string ⟨#[]⟩] 8 (World.laidAll_os _ _ _)
   (World.shaped_of_ZipB (by kernel_rfl) (by kernel_rfl)) (by kernel_rfl) (by kernel_rfl) (by kernel_rfl)
   (by rw [MakeChecks.laidMetH_plain _ _ _ (by kernel_rfl)]; exact laidMet_laidAll _ (by kernel_rfl) (by kernel_rfl))) ?_
 intro W base args ds gs before hval0 hW hsh hx0
 have hG := gl2_of hsh hx0
 have hval : ∀ (j : Nat) t v, Tryz.f18.params[j]? = some t → args[j]? = some v → Value.okWide Tryz.prog W .any base t v := hval0
 have hW' := hW
 obtain ⟨p, q, hA0, hV, rfl, hfz, hnd⟩ := hW
 have hA : DataW.TrodAll enc Tryz.prog W 0 (fun _ => true) true Tryz.f18.params.toList args.toList ds p := hA0
 rw [Tryz.params18] at hA hval
 obtain ⟨v0, vs0, d0, ds0, p0, q0, hargs, rfl, rfl, h0, r0⟩ := trodAll_cons hA
 obtain ⟨v1, vs1, d1, ds1, p1, q1, rfl, rfl, rfl, h1, r1⟩ := trodAll_cons r0
 obtain ⟨v2, vs2, d2, ds2, p2, q2, rfl, rfl, rfl, h2, r2⟩ := trodAll_cons r1
 obtain ⟨rfl, rfl, rfl⟩ := trodAll_nil r2
 obtain rfl : args = #[v0, v1, v2] := by cases args; simp_all
 obtain ⟨rfl, rfl⟩ := trodVars_none hV
 obtain ⟨k0, rfl, hk0⟩ := openMark (hval 0 39 v0 rfl rfl) h0
 obtain ⟨s1, rfl, hs1⟩ := openSight (hval 1 30 v1 rfl rfl) h1
 obtain ⟨s2, rfl, rfl, rfl, w2⟩ := Go.ChangeMaps.open_string Tryz.underlying9 (hval 2 9 v2 rfl rfl) h2
 clear hA0 hval0
 exact (lawTexts k0 hk0 s1 hs1 s2.data.toList W hG).mono fun v W' ⟨hv, hle⟩ => by
  subst hv
  exact post_lawB hW' laidT (by rw [Tryz.params18]; exact fun t ht => by revert t; decide +kernel) (by kernel_rfl) Tryz.underlying4 rfl rfl rfl rfl hle.below
theorem inPlTexts : Tryz.prog.inPlace 18 = ["internal/bytealg.CountString", "internal/bytealg.IndexByteString", "internal/bytealg.IndexString", "internal/abi.NoEscape", "internal/bytealg.MakeNoZero"] := by kernel_rfl
theorem unfTexts : Tryz.prog.unfollowed 18 = true := by kernel_rfl
theorem recTexts : Tryz.prog.recurses 18 = true := by unfold Program.recurses; rw [unfTexts]; rfl
theorem namTexts : Tryz.prog.varsNamed 18 = Rows.markTextsRow.named := by kernel_rfl
theorem closedTexts : joinedFacts Tryz.prog 18 Tryz.f18 Rows.markTextsSpec Rows.markTextsRow = true := by
 unfold joinedFacts
 rw [inPlTexts, unfTexts, recTexts, namTexts, mayT, liftT, makeT]
 kernel_rfl
theorem markTextsRow_holds : Rows.MarkTextsSaid :=
 OpenClaim.holds_of_wide 18 Tryz.f18 rfl rfl rfl rfl rfl rfl rfl ⟨rfl, rfl, rfl, rfl, rfl⟩ rfl rfl rfl rfl rfl (by kernel_rfl) Tryz.func18 closedTexts
  (of_decide_eq_true (by kernel_rfl)) (by unfold Func.isWrapper; rw [if_neg (of_decide_eq_false (by kernel_rfl))]; exact ⟨rfl, rfl⟩)
  (fun os started H enc _ => liftedTexts os started H enc)
end YtaigapdghhoncaaGreatDoor

end Go.Proofs
