/- The statement of MarkTexts: for every input the law returns true, and its arguments read as they did. -/
import Derived.Test.YtaigapdghhoncaaGreatDoorKd4c61d94dc
import Derived.Test.YtaigapdghhoncaaGreatDoorK86611f319a
set_option linter.unusedVariables false
set_option linter.unusedSimpArgs false
set_option linter.unusedSectionVars false
namespace Go.Proofs
open Go Go.Vk Go.Vk.Flow

open Go.Vk.Mark
open Go.Vk.Deed (i64 rng rng_iff owners sumI sumI_cons sumI_snoc)
open Go.ChangeShapes Go.WideShapes Go.RowKit Go.Joins
namespace YtaigapdghhoncaaGreatDoor
theorem markTexts : Rows.MarkTextsCardSaid :=
 Claim7.holds_tied_plain_at .later [] [.data, .data, .data, .data, .sentinel, .sentinel, .pinned] true (true, "b6e0e925c04c287910193048745130e7e877e3ca98d5b96c7dcd1bc8807703e3") true markTextsRow_holds (fun _ h => by cases h) (by kernel_rfl) (fun _ h => by cases h) markTexts_row_tie rfl ⟨rfl, rfl⟩ cardMain rfl
  (fun f fn hf hfn => by
   obtain rfl : f = 18 := Option.some.inj ((show Tryz.prog.funcNamed "couchant/couchantlaw03.MarkTexts" = some 18 by kernel_rfl).symm.trans hf) |>.symm
   obtain rfl : fn = Tryz.f18 := (Option.some.inj (Tryz.func18.symm.trans hfn)).symm
   exact ⟨cardLooks, fun j t ht => by
    rw [Tryz.params18] at ht
    have hsub : ∀ u ∈ [39, 30, 9], u ∈ [3, 4, 5, 9, 25, 30, 39, 41, 50, 51, 52] := by decide
    have hm : t ∈ [3, 4, 5, 9, 25, 30, 39, 41, 50, 51, 52] := hsub t (by simpa using Array.mem_of_getElem? ht)
    exact (show Tryz.prog.wantsStandIn t = false by simpa using List.all_eq_true.1 cardStand t hm)⟩)
  (by kernel_rfl)
#print axioms markTexts
end YtaigapdghhoncaaGreatDoor

end Go.Proofs
