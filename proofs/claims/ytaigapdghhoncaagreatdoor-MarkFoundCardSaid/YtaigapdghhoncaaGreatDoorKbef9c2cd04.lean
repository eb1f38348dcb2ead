/- Texts joined for claims: QFound. -/
import Derived.Test.YtaigapdghhoncaaGreatDoorK4cbff6396b
import Derived.Test.YtaigapdghhoncaaGreatDoorK8d0ec6b658
set_option linter.unusedVariables false
set_option linter.unusedSimpArgs false
set_option linter.unusedSectionVars false
namespace Go.Proofs
open Go Go.Vk Go.Vk.Flow

open Go.Vk.Mark
open Go.Vk.Deed (i64 rng rng_iff owners sumI sumI_cons sumI_snoc)
open Go.ChangeShapes Go.WideShapes Go.RowKit Go.Joins
namespace YtaigapdghhoncaaGreatDoor
set_option maxRecDepth 100000 in
theorem liftedFound (os : Os) (started : os.Started) (H : Type) (enc : TypeId × Value → H) :
  ReturnsInHanded {} Tryz.checked os 16 .any (fun w args => (Rows.markFoundSpec.pre enc Tryz.prog Tryz.f16 Rows.markFoundRow.domain false w args ∧ laidMetH Tryz.prog Rows.markFoundRow.laid w) ∧ sizedMet enc Tryz.prog Tryz.f16 (OpenSpec.ofChange Rows.markFoundSpec) false w args)
   (Rows.markFoundSpec.post enc Tryz.prog Tryz.f16 false true false false) := by
 refine returnsIn_shaped_and (C := Tryz.checked) (X := fun w _ => laidMetH Tryz.prog Rows.markFoundRow.laid w) (fun _ _ _ hh h => h.of_heap hh) ownT started (by kernel_rfl) Tryz.func16
  (ChangeSpec.witness_shaped (enc := enc) (C := Tryz.checked) (os := os) (X := fun w _ => laidMetH Tryz.prog Rows.markFoundRow.laid w) false (World.laidAll Tryz.prog os Rows.markFoundRow.laid) #[.agg #[.slice none 0 0, .slice none 0 0], .int .i64 0, .slice none 0 0, .int .i64 0] 8 (World.laidAll_os _ _ _)
   (World.shaped_of_ZipB (by kernel_rfl) (by kernel_rfl)) (by kernel_rfl) (by kernel_rfl) (by kernel_rfl)
   (by rw [MakeChecks.laidMetH_plain _ _ _ (by kernel_rfl)]; exact laidMet_laidAll _ (by kernel_rfl) (by kernel_rfl))) ?_
 intro W base args ds gs before hval0 hW hsh
 have hG := gl_of hsh
 have hval : ∀ (j : Nat) t v, Tryz.f16.params[j]? = some t → args[j]? = some v → Value.okWide Tryz.prog W .any base t v := hval0
 have hW' := hW
 obtain ⟨p, q, hA0, hV, rfl, hfz, hnd⟩ := hW
 have hA : DataW.TrodAll enc Tryz.prog W 0 (fun _ => true) true Tryz.f16.params.toList args.toList ds p := hA0
 rw [Tryz.params16] at hA hval
 obtain ⟨v0, vs0, d0, ds0, p0, q0, hargs, rfl, rfl, h0, r0⟩ := trodAll_cons hA
 obtain ⟨v1, vs1, d1, ds1, p1, q1, rfl, rfl, rfl, h1, r1⟩ := trodAll_cons r0
 obtain ⟨v2, vs2, d2, ds2, p2, q2, rfl, rfl, rfl, h2, r2⟩ := trodAll_cons r1
 obtain ⟨v3, vs3, d3, ds3, p3, q3, rfl, rfl, rfl, h3, r3⟩ := trodAll_cons r2
 obtain ⟨rfl, rfl, rfl⟩ := trodAll_nil r3
 obtain rfl : args = #[v0, v1, v2, v3] := by cases args; simp_all
 obtain ⟨rfl, rfl⟩ := trodVars_none hV
 obtain ⟨b0, vm0, vf0, rfl, hB0⟩ := openSmits (hval 0 25 v0 rfl rfl) h0
 obtain ⟨i1, rfl, rfl, rfl, w1⟩ := open_int Tryz.underlying3 (hval 1 3 v1 rfl rfl) h1
 obtain ⟨l2, hQ2, hm2, ho2⟩ := openSights (hval 2 50 v2 rfl rfl) h2
 obtain ⟨i3, rfl, rfl, rfl, w3⟩ := open_int Tryz.underlying3 (hval 3 3 v3 rfl rfl) h3
 clear hA0 hval0
 exact (lawFound b0 vm0 vf0 i1 l2 v2 i3 hm2 ho2 W hB0 hG hQ2).mono fun v W' ⟨hv, hle⟩ => by
  subst hv
  exact post_law hW' laidT (by rw [Tryz.params16]; exact fun t ht => by revert t; decide +kernel) (by kernel_rfl) Tryz.underlying4 rfl rfl rfl rfl hle
theorem inPlFound : Tryz.prog.inPlace 16 = ["internal/bytealg.CountString", "internal/bytealg.IndexByteString", "internal/bytealg.IndexString", "slices.overlaps[couchant/api.Group]"] := by kernel_rfl
theorem unfFound : Tryz.prog.unfollowed 16 = true := by kernel_rfl
theorem recFound : Tryz.prog.recurses 16 = true := by unfold Program.recurses; rw [unfFound]; rfl
theorem namFound : Tryz.prog.varsNamed 16 = Rows.markFoundRow.named := by kernel_rfl
theorem closedFound : joinedFacts Tryz.prog 16 Tryz.f16 Rows.markFoundSpec Rows.markFoundRow = true := by
 unfold joinedFacts
 rw [inPlFound, unfFound, recFound, namFound, mayT, liftT, makeT]
 kernel_rfl
theorem markFoundRow_holds : Rows.MarkFoundSaid :=
 OpenClaim.holds_of_wide 16 Tryz.f16 rfl rfl rfl rfl rfl rfl rfl ⟨rfl, rfl, rfl, rfl, rfl⟩ rfl rfl rfl rfl rfl (by kernel_rfl) Tryz.func16 closedFound
  (of_decide_eq_true (by kernel_rfl)) (by unfold Func.isWrapper; rw [if_neg (of_decide_eq_false (by kernel_rfl))]; exact ⟨rfl, rfl⟩)
  (fun os started H enc _ => liftedFound os started H enc)
end YtaigapdghhoncaaGreatDoor

end Go.Proofs
