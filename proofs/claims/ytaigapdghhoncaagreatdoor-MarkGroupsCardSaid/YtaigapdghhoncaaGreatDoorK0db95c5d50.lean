/- Texts joined for claims: QGroups. -/
import Derived.Test.YtaigapdghhoncaaGreatDoorK47a74e85ea
import Derived.Test.YtaigapdghhoncaaGreatDoorK6a28a54daf
set_option linter.unusedVariables false
set_option linter.unusedSimpArgs false
set_option linter.unusedSectionVars false
namespace Go.Proofs
open Go Go.Vk Go.Vk.Flow

open Go.Vk.Mark
open Go.Vk.Deed (i64 rng rng_iff owners sumI sumI_cons sumI_snoc)
open Go.ChangeShapes Go.WideShapes Go.RowKit Go.Joins
namespace YtaigapdghhoncaaGreatDoor
set_option maxRecDepth 100000 in
theorem liftedGroups (os : Os) (started : os.Started) (H : Type) (enc : TypeId × Value → H) :
  ReturnsInHanded {} Tryz.checked os 17 .any (fun w args => (Rows.markGroupsSpec.pre enc Tryz.prog Tryz.f17 Rows.markGroupsRow.domain false w args ∧ laidMetH Tryz.prog Rows.markGroupsRow.laid w) ∧ sizedMet enc Tryz.prog Tryz.f17 (OpenSpec.ofChange Rows.markGroupsSpec) false w args)
   (Rows.markGroupsSpec.post enc Tryz.prog Tryz.f17 false true false false) := by
 refine returnsIn_shaped_and (C := Tryz.checked) (X := fun w _ => laidMetH Tryz.prog Rows.markGroupsRow.laid w) (fun _ _ _ hh h => h.of_heap hh) ownT started (by kernel_rfl) Tryz.func17
  (ChangeSpec.witness_shaped (enc := enc) (C := Tryz.checked) (os := os) (X := fun w _ => laidMetH Tryz.prog Rows.markGroupsRow.laid w) false (World.laidAll Tryz.prog os Rows.markGroupsRow.laid) #[.agg #[.slice none 0 0, .slice none 0 0], .int .i64 0, .slice none 0 0] 8 (World.laidAll_os _ _ _)
   (World.shaped_of_ZipB (by kernel_rfl) (by kernel_rfl)) (by kernel_rfl) (by kernel_rfl) (by kernel_rfl)
   (by rw [MakeChecks.laidMetH_plain _ _ _ (by kernel_rfl)]; exact laidMet_laidAll _ (by kernel_rfl) (by kernel_rfl))) ?_
 intro W base args ds gs before hval0 hW hsh
 have hG := gl_of hsh
 have hval : ∀ (j : Nat) t v, Tryz.f17.params[j]? = some t → args[j]? = some v → Value.okWide Tryz.prog W .any base t v := hval0
 have hW' := hW
 obtain ⟨p, q, hA0, hV, rfl, hfz, hnd⟩ := hW
 have hA : DataW.TrodAll enc Tryz.prog W 0 (fun _ => true) true Tryz.f17.params.toList args.toList ds p := hA0
 rw [Tryz.params17] at hA hval
 obtain ⟨v0, vs0, d0, ds0, p0, q0, hargs, rfl, rfl, h0, r0⟩ := trodAll_cons hA
 obtain ⟨v1, vs1, d1, ds1, p1, q1, rfl, rfl, rfl, h1, r1⟩ := trodAll_cons r0
 obtain ⟨v2, vs2, d2, ds2, p2, q2, rfl, rfl, rfl, h2, r2⟩ := trodAll_cons r1
 obtain ⟨rfl, rfl, rfl⟩ := trodAll_nil r2
 obtain rfl : args = #[v0, v1, v2] := by cases args; simp_all
 obtain ⟨rfl, rfl⟩ := trodVars_none hV
 obtain ⟨b0, vm0, vf0, rfl, hB0⟩ := openSmits (hval 0 25 v0 rfl rfl) h0
 obtain ⟨i1, rfl, rfl, rfl, w1⟩ := open_int Tryz.underlying3 (hval 1 3 v1 rfl rfl) h1
 obtain ⟨l2, hQ2, hm2, ho2⟩ := openSights (hval 2 50 v2 rfl rfl) h2
 clear hA0 hval0
 exact (lawGroups b0 vm0 vf0 i1 l2 v2 hm2 ho2 W hB0 hG hQ2).mono fun v W' ⟨hv, hle⟩ => by
  subst hv
  exact post_law hW' laidT (by rw [Tryz.params17]; exact fun t ht => by revert t; decide +kernel) (by kernel_rfl) Tryz.underlying4 rfl rfl rfl rfl hle
theorem inPlGroups : Tryz.prog.inPlace 17 = ["internal/bytealg.CountString", "internal/bytealg.IndexByteString", "internal/bytealg.IndexString", "slices.overlaps[couchant/api.Group]"] := by kernel_rfl
theorem unfGroups : Tryz.prog.unfollowed 17 = true := by kernel_rfl
theorem recGroups : Tryz.prog.recurses 17 = true := by unfold Program.recurses; rw [unfGroups]; rfl
theorem namGroups : Tryz.prog.varsNamed 17 = Rows.markGroupsRow.named := by kernel_rfl
theorem closedGroups : joinedFacts Tryz.prog 17 Tryz.f17 Rows.markGroupsSpec Rows.markGroupsRow = true := by
 unfold joinedFacts
 rw [inPlGroups, unfGroups, recGroups, namGroups, mayT, liftT, makeT]
 kernel_rfl
theorem markGroupsRow_holds : Rows.MarkGroupsSaid :=
 OpenClaim.holds_of_wide 17 Tryz.f17 rfl rfl rfl rfl rfl rfl rfl ⟨rfl, rfl, rfl, rfl, rfl⟩ rfl rfl rfl rfl rfl (by kernel_rfl) Tryz.func17 closedGroups
  (of_decide_eq_true (by kernel_rfl)) (by unfold Func.isWrapper; rw [if_neg (of_decide_eq_false (by kernel_rfl))]; exact ⟨rfl, rfl⟩)
  (fun os started H enc _ => liftedGroups os started H enc)
end YtaigapdghhoncaaGreatDoor

end Go.Proofs
