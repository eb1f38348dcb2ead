/-
  DERIVED. GIVEN WITH THE SEED: THE CARDS: each row of YtaigapdghhoncaaGreatDoorRows.lean that lists a variable, with what it lists TIED to the program's text (the seventh form; the later family's looks); each row that meets fmt, with fmt's text TOLD by the authors' own Lean function (tested against real Go, not proved from fmt's source: count such statements apart). THE CARD IS WHAT COUNTS. Prove the row's statement (the work); the ties are given (YtaigapdghhoncaaGreatDoorTie.lean); close each card by the builder's one call (the guide's Derived/Test/ToyasCard.lean, 'card_holds'). Laid BY PROGRAM, IN A SANDBOX (cutbox-door.mjs). By AI agents, Wed Nov 11 2026. No macro, syntax, notation, axiom, sorry.
-/
import Derived.Test.YtaigapdghhoncaaGreatDoorRows
import GoSem.ClaimSeven
namespace Go.Proofs.YtaigapdghhoncaaGreatDoor
namespace Rows

/-- THE TIED CARD OF 'couchantlaw03.MarkFree'. -/
def markFreeCard : Claim7 := { stood := { row := markFreeRow, standIns := [], harness := (true, "b6e0e925c04c287910193048745130e7e877e3ca98d5b96c7dcd1bc8807703e3"), looks := true }, kinds := [], alts := [], laidByText := true, laidKinds := [.data, .pinned], laidTests := true, laidLooks := .later }
def MarkFreeCardSaid : Prop := Claim7.holds Tryz.pinned (.plain (OpenSpec.ofChange markFreeSpec)) markFreeCard

/-- THE TIED CARD OF 'couchantlaw03.MarkWorn'. -/
def markWornCard : Claim7 := { stood := { row := markWornRow, standIns := [], harness := (true, "b6e0e925c04c287910193048745130e7e877e3ca98d5b96c7dcd1bc8807703e3"), looks := true }, kinds := [], alts := [], laidByText := true, laidKinds := [.data, .pinned], laidTests := true, laidLooks := .later }
def MarkWornCardSaid : Prop := Claim7.holds Tryz.pinned (.plain (OpenSpec.ofChange markWornSpec)) markWornCard

/-- THE TIED CARD OF 'couchantlaw03.MarkMore'. -/
def markMoreCard : Claim7 := { stood := { row := markMoreRow, standIns := [], harness := (true, "b6e0e925c04c287910193048745130e7e877e3ca98d5b96c7dcd1bc8807703e3"), looks := true }, kinds := [], alts := [], laidByText := true, laidKinds := [.data, .pinned], laidTests := true, laidLooks := .later }
def MarkMoreCardSaid : Prop := Claim7.holds Tryz.pinned (.plain (OpenSpec.ofChange markMoreSpec)) markMoreCard

/-- THE TIED CARD OF 'couchantlaw03.MarkAssigns'. -/
def markAssignsCard : Claim7 := { stood := { row := markAssignsRow, standIns := [], harness := (true, "b6e0e925c04c287910193048745130e7e877e3ca98d5b96c7dcd1bc8807703e3"), looks := true }, kinds := [], alts := [], laidByText := true, laidKinds := [.data, .pinned], laidTests := true, laidLooks := .later }
def MarkAssignsCardSaid : Prop := Claim7.holds Tryz.pinned (.plain (OpenSpec.ofChange markAssignsSpec)) markAssignsCard

/-- THE TIED CARD OF 'couchantlaw03.MarkNobody'. -/
def markNobodyCard : Claim7 := { stood := { row := markNobodyRow, standIns := [], harness := (true, "b6e0e925c04c287910193048745130e7e877e3ca98d5b96c7dcd1bc8807703e3"), looks := true }, kinds := [], alts := [], laidByText := true, laidKinds := [.data, .pinned], laidTests := true, laidLooks := .later }
def MarkNobodyCardSaid : Prop := Claim7.holds Tryz.pinned (.plain (OpenSpec.ofChange markNobodySpec)) markNobodyCard

/-- THE TIED CARD OF 'couchantlaw03.MarkSmits'. -/
def markSmitsCard : Claim7 := { stood := { row := markSmitsRow, standIns := [], harness := (true, "b6e0e925c04c287910193048745130e7e877e3ca98d5b96c7dcd1bc8807703e3"), looks := true }, kinds := [], alts := [], laidByText := true, laidKinds := [.data, .pinned], laidTests := true, laidLooks := .later }
def MarkSmitsCardSaid : Prop := Claim7.holds Tryz.pinned (.plain (OpenSpec.ofChange markSmitsSpec)) markSmitsCard

/-- THE TIED CARD OF 'couchantlaw03.MarkSights'. -/
def markSightsCard : Claim7 := { stood := { row := markSightsRow, standIns := [], harness := (true, "b6e0e925c04c287910193048745130e7e877e3ca98d5b96c7dcd1bc8807703e3"), looks := true }, kinds := [], alts := [], laidByText := true, laidKinds := [.data, .pinned], laidTests := true, laidLooks := .later }
def MarkSightsCardSaid : Prop := Claim7.holds Tryz.pinned (.plain (OpenSpec.ofChange markSightsSpec)) markSightsCard

/-- THE TIED CARD OF 'couchantlaw03.MarkShort'. -/
def markShortCard : Claim7 := { stood := { row := markShortRow, standIns := [], harness := (true, "b6e0e925c04c287910193048745130e7e877e3ca98d5b96c7dcd1bc8807703e3"), looks := true }, kinds := [], alts := [], laidByText := true, laidKinds := [.data, .pinned], laidTests := true, laidLooks := .later }
def MarkShortCardSaid : Prop := Claim7.holds Tryz.pinned (.plain (OpenSpec.ofChange markShortSpec)) markShortCard

/-- THE TIED CARD OF 'couchantlaw03.MarkSure'. -/
def markSureCard : Claim7 := { stood := { row := markSureRow, standIns := [], harness := (true, "b6e0e925c04c287910193048745130e7e877e3ca98d5b96c7dcd1bc8807703e3"), looks := true }, kinds := [], alts := [], laidByText := true, laidKinds := [.data, .pinned], laidTests := true, laidLooks := .later }
def MarkSureCardSaid : Prop := Claim7.holds Tryz.pinned (.plain (OpenSpec.ofChange markSureSpec)) markSureCard

/-- THE TIED CARD OF 'couchantlaw03.MarkCertain'. -/
def markCertainCard : Claim7 := { stood := { row := markCertainRow, standIns := [], harness := (true, "b6e0e925c04c287910193048745130e7e877e3ca98d5b96c7dcd1bc8807703e3"), looks := true }, kinds := [], alts := [], laidByText := true, laidKinds := [.data, .pinned], laidTests := true, laidLooks := .later }
def MarkCertainCardSaid : Prop := Claim7.holds Tryz.pinned (.plain (OpenSpec.ofChange markCertainSpec)) markCertainCard

/-- THE TIED CARD OF 'couchantlaw03.MarkAlike'. -/
def markAlikeCard : Claim7 := { stood := { row := markAlikeRow, standIns := [], harness := (true, "b6e0e925c04c287910193048745130e7e877e3ca98d5b96c7dcd1bc8807703e3"), looks := true }, kinds := [], alts := [], laidByText := true, laidKinds := [.data, .pinned], laidTests := true, laidLooks := .later }
def MarkAlikeCardSaid : Prop := Claim7.holds Tryz.pinned (.plain (OpenSpec.ofChange markAlikeSpec)) markAlikeCard

/-- THE TIED CARD OF 'couchantlaw03.MarkEither'. -/
def markEitherCard : Claim7 := { stood := { row := markEitherRow, standIns := [], harness := (true, "b6e0e925c04c287910193048745130e7e877e3ca98d5b96c7dcd1bc8807703e3"), looks := true }, kinds := [], alts := [], laidByText := true, laidKinds := [.data, .pinned], laidTests := true, laidLooks := .later }
def MarkEitherCardSaid : Prop := Claim7.holds Tryz.pinned (.plain (OpenSpec.ofChange markEitherSpec)) markEitherCard

/-- THE TIED CARD OF 'couchantlaw03.MarkRange'. -/
def markRangeCard : Claim7 := { stood := { row := markRangeRow, standIns := [], harness := (true, "b6e0e925c04c287910193048745130e7e877e3ca98d5b96c7dcd1bc8807703e3"), looks := true }, kinds := [], alts := [], laidByText := true, laidKinds := [.data, .pinned], laidTests := true, laidLooks := .later }
def MarkRangeCardSaid : Prop := Claim7.holds Tryz.pinned (.plain (OpenSpec.ofChange markRangeSpec)) markRangeCard

/-- THE TIED CARD OF 'couchantlaw03.MarkFound'. -/
def markFoundCard : Claim7 := { stood := { row := markFoundRow, standIns := [], harness := (true, "b6e0e925c04c287910193048745130e7e877e3ca98d5b96c7dcd1bc8807703e3"), looks := true }, kinds := [], alts := [], laidByText := true, laidKinds := [.data, .pinned], laidTests := true, laidLooks := .later }
def MarkFoundCardSaid : Prop := Claim7.holds Tryz.pinned (.plain (OpenSpec.ofChange markFoundSpec)) markFoundCard

/-- THE TIED CARD OF 'couchantlaw03.MarkGroups'. -/
def markGroupsCard : Claim7 := { stood := { row := markGroupsRow, standIns := [], harness := (true, "b6e0e925c04c287910193048745130e7e877e3ca98d5b96c7dcd1bc8807703e3"), looks := true }, kinds := [], alts := [], laidByText := true, laidKinds := [.data, .pinned], laidTests := true, laidLooks := .later }
def MarkGroupsCardSaid : Prop := Claim7.holds Tryz.pinned (.plain (OpenSpec.ofChange markGroupsSpec)) markGroupsCard

/-- THE TIED CARD OF 'couchantlaw03.MarkTexts'. -/
def markTextsCard : Claim7 := { stood := { row := markTextsRow, standIns := [], harness := (true, "b6e0e925c04c287910193048745130e7e877e3ca98d5b96c7dcd1bc8807703e3"), looks := true }, kinds := [], alts := [], laidByText := true, laidKinds := [.data, .data, .data, .data, .sentinel, .sentinel, .pinned], laidTests := true, laidLooks := .later }
def MarkTextsCardSaid : Prop := Claim7.holds Tryz.pinned (.plain (OpenSpec.ofChange markTextsSpec)) markTextsCard

/-- THE SECOND FORM's CARD OF 'couchantlaw03.MarkFree'. -/
def markFreeUptoCard : Claim7 := { stood := { row := markFreeUptoRow, standIns := [], harness := (true, "b6e0e925c04c287910193048745130e7e877e3ca98d5b96c7dcd1bc8807703e3"), looks := true }, kinds := [], alts := [], laidByText := true, laidKinds := [.data, .pinned], laidTests := true, laidLooks := .later }
def MarkFreeUptoCardSaid : Prop := Claim7.holds Tryz.pinned (.plain (OpenSpec.upto markFreeSpec)) markFreeUptoCard

/-- THE SECOND FORM's CARD OF 'couchantlaw03.MarkWorn'. -/
def markWornUptoCard : Claim7 := { stood := { row := markWornUptoRow, standIns := [], harness := (true, "b6e0e925c04c287910193048745130e7e877e3ca98d5b96c7dcd1bc8807703e3"), looks := true }, kinds := [], alts := [], laidByText := true, laidKinds := [.data, .pinned], laidTests := true, laidLooks := .later }
def MarkWornUptoCardSaid : Prop := Claim7.holds Tryz.pinned (.plain (OpenSpec.upto markWornSpec)) markWornUptoCard

/-- THE SECOND FORM's CARD OF 'couchantlaw03.MarkMore'. -/
def markMoreUptoCard : Claim7 := { stood := { row := markMoreUptoRow, standIns := [], harness := (true, "b6e0e925c04c287910193048745130e7e877e3ca98d5b96c7dcd1bc8807703e3"), looks := true }, kinds := [], alts := [], laidByText := true, laidKinds := [.data, .pinned], laidTests := true, laidLooks := .later }
def MarkMoreUptoCardSaid : Prop := Claim7.holds Tryz.pinned (.plain (OpenSpec.upto markMoreSpec)) markMoreUptoCard

/-- THE SECOND FORM's CARD OF 'couchantlaw03.MarkAssigns'. -/
def markAssignsUptoCard : Claim7 := { stood := { row := markAssignsUptoRow, standIns := [], harness := (true, "b6e0e925c04c287910193048745130e7e877e3ca98d5b96c7dcd1bc8807703e3"), looks := true }, kinds := [], alts := [], laidByText := true, laidKinds := [.data, .pinned], laidTests := true, laidLooks := .later }
def MarkAssignsUptoCardSaid : Prop := Claim7.holds Tryz.pinned (.plain (OpenSpec.upto markAssignsSpec)) markAssignsUptoCard

/-- THE SECOND FORM's CARD OF 'couchantlaw03.MarkNobody'. -/
def markNobodyUptoCard : Claim7 := { stood := { row := markNobodyUptoRow, standIns := [], harness := (true, "b6e0e925c04c287910193048745130e7e877e3ca98d5b96c7dcd1bc8807703e3"), looks := true }, kinds := [], alts := [], laidByText := true, laidKinds := [.data, .pinned], laidTests := true, laidLooks := .later }
def MarkNobodyUptoCardSaid : Prop := Claim7.holds Tryz.pinned (.plain (OpenSpec.upto markNobodySpec)) markNobodyUptoCard

/-- THE SECOND FORM's CARD OF 'couchantlaw03.MarkSmits'. -/
def markSmitsUptoCard : Claim7 := { stood := { row := markSmitsUptoRow, standIns := [], harness := (true, "b6e0e925c04c287910193048745130e7e877e3ca98d5b96c7dcd1bc8807703e3"), looks := true }, kinds := [], alts := [], laidByText := true, laidKinds := [.data, .pinned], laidTests := true, laidLooks := .later }
def MarkSmitsUptoCardSaid : Prop := Claim7.holds Tryz.pinned (.plain (OpenSpec.upto markSmitsSpec)) markSmitsUptoCard

/-- THE SECOND FORM's CARD OF 'couchantlaw03.MarkSights'. -/
def markSightsUptoCard : Claim7 := { stood := { row := markSightsUptoRow, standIns := [], harness := (true, "b6e0e925c04c287910193048745130e7e877e3ca98d5b96c7dcd1bc8807703e3"), looks := true }, kinds := [], alts := [], laidByText := true, laidKinds := [.data, .pinned], laidTests := true, laidLooks := .later }
def MarkSightsUptoCardSaid : Prop := Claim7.holds Tryz.pinned (.plain (OpenSpec.upto markSightsSpec)) markSightsUptoCard

/-- THE SECOND FORM's CARD OF 'couchantlaw03.MarkShort'. -/
def markShortUptoCard : Claim7 := { stood := { row := markShortUptoRow, standIns := [], harness := (true, "b6e0e925c04c287910193048745130e7e877e3ca98d5b96c7dcd1bc8807703e3"), looks := true }, kinds := [], alts := [], laidByText := true, laidKinds := [.data, .pinned], laidTests := true, laidLooks := .later }
def MarkShortUptoCardSaid : Prop := Claim7.holds Tryz.pinned (.plain (OpenSpec.upto markShortSpec)) markShortUptoCard

/-- THE SECOND FORM's CARD OF 'couchantlaw03.MarkSure'. -/
def markSureUptoCard : Claim7 := { stood := { row := markSureUptoRow, standIns := [], harness := (true, "b6e0e925c04c287910193048745130e7e877e3ca98d5b96c7dcd1bc8807703e3"), looks := true }, kinds := [], alts := [], laidByText := true, laidKinds := [.data, .pinned], laidTests := true, laidLooks := .later }
def MarkSureUptoCardSaid : Prop := Claim7.holds Tryz.pinned (.plain (OpenSpec.upto markSureSpec)) markSureUptoCard

/-- THE SECOND FORM's CARD OF 'couchantlaw03.MarkCertain'. -/
def markCertainUptoCard : Claim7 := { stood := { row := markCertainUptoRow, standIns := [], harness := (true, "b6e0e925c04c287910193048745130e7e877e3ca98d5b96c7dcd1bc8807703e3"), looks := true }, kinds := [], alts := [], laidByText := true, laidKinds := [.data, .pinned], laidTests := true, laidLooks := .later }
def MarkCertainUptoCardSaid : Prop := Claim7.holds Tryz.pinned (.plain (OpenSpec.upto markCertainSpec)) markCertainUptoCard

/-- THE SECOND FORM's CARD OF 'couchantlaw03.MarkAlike'. -/
def markAlikeUptoCard : Claim7 := { stood := { row := markAlikeUptoRow, standIns := [], harness := (true, "b6e0e925c04c287910193048745130e7e877e3ca98d5b96c7dcd1bc8807703e3"), looks := true }, kinds := [], alts := [], laidByText := true, laidKinds := [.data, .pinned], laidTests := true, laidLooks := .later }
def MarkAlikeUptoCardSaid : Prop := Claim7.holds Tryz.pinned (.plain (OpenSpec.upto markAlikeSpec)) markAlikeUptoCard

/-- THE SECOND FORM's CARD OF 'couchantlaw03.MarkEither'. -/
def markEitherUptoCard : Claim7 := { stood := { row := markEitherUptoRow, standIns := [], harness := (true, "b6e0e925c04c287910193048745130e7e877e3ca98d5b96c7dcd1bc8807703e3"), looks := true }, kinds := [], alts := [], laidByText := true, laidKinds := [.data, .pinned], laidTests := true, laidLooks := .later }
def MarkEitherUptoCardSaid : Prop := Claim7.holds Tryz.pinned (.plain (OpenSpec.upto markEitherSpec)) markEitherUptoCard

/-- THE SECOND FORM's CARD OF 'couchantlaw03.MarkRange'. -/
def markRangeUptoCard : Claim7 := { stood := { row := markRangeUptoRow, standIns := [], harness := (true, "b6e0e925c04c287910193048745130e7e877e3ca98d5b96c7dcd1bc8807703e3"), looks := true }, kinds := [], alts := [], laidByText := true, laidKinds := [.data, .pinned], laidTests := true, laidLooks := .later }
def MarkRangeUptoCardSaid : Prop := Claim7.holds Tryz.pinned (.plain (OpenSpec.upto markRangeSpec)) markRangeUptoCard

/-- THE SECOND FORM's CARD OF 'couchantlaw03.MarkFound'. -/
def markFoundUptoCard : Claim7 := { stood := { row := markFoundUptoRow, standIns := [], harness := (true, "b6e0e925c04c287910193048745130e7e877e3ca98d5b96c7dcd1bc8807703e3"), looks := true }, kinds := [], alts := [], laidByText := true, laidKinds := [.data, .pinned], laidTests := true, laidLooks := .later }
def MarkFoundUptoCardSaid : Prop := Claim7.holds Tryz.pinned (.plain (OpenSpec.upto markFoundSpec)) markFoundUptoCard

/-- THE SECOND FORM's CARD OF 'couchantlaw03.MarkGroups'. -/
def markGroupsUptoCard : Claim7 := { stood := { row := markGroupsUptoRow, standIns := [], harness := (true, "b6e0e925c04c287910193048745130e7e877e3ca98d5b96c7dcd1bc8807703e3"), looks := true }, kinds := [], alts := [], laidByText := true, laidKinds := [.data, .pinned], laidTests := true, laidLooks := .later }
def MarkGroupsUptoCardSaid : Prop := Claim7.holds Tryz.pinned (.plain (OpenSpec.upto markGroupsSpec)) markGroupsUptoCard

/-- THE SECOND FORM's CARD OF 'couchantlaw03.MarkTexts'. -/
def markTextsUptoCard : Claim7 := { stood := { row := markTextsUptoRow, standIns := [], harness := (true, "b6e0e925c04c287910193048745130e7e877e3ca98d5b96c7dcd1bc8807703e3"), looks := true }, kinds := [], alts := [], laidByText := true, laidKinds := [.data, .data, .data, .data, .sentinel, .sentinel, .pinned], laidTests := true, laidLooks := .later }
def MarkTextsUptoCardSaid : Prop := Claim7.holds Tryz.pinned (.plain (OpenSpec.upto markTextsSpec)) markTextsUptoCard
end Rows
end Go.Proofs.YtaigapdghhoncaaGreatDoor
