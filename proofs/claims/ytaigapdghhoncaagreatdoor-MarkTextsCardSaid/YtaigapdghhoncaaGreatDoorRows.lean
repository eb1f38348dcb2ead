/-
  NARROWER THAN 'FOR EVERY INPUT', by the rows' own cells (each row's printed sentence says how): MarkFree: laid · MarkWorn: laid · MarkMore: laid · MarkAssigns: laid · MarkNobody: laid · MarkSmits: laid · MarkSights: laid · MarkShort: laid · MarkSure: laid · MarkCertain: laid · MarkAlike: laid · MarkEither: laid · MarkRange: laid · MarkFound: laid · MarkGroups: laid · MarkTexts: laid.
  DERIVED. THE GIVEN ROWS OF THIS SEAT. 16 by the template 'for every input the law returns true; each argument reads behind the call as it read before'; 0 by the template 'total and deterministic' (their statements: YtaigapdghhoncaaGreatDoorTotals.lean).
  GIVEN WITH THE SEED: the statements are not yours to turn. If you find one false, say at which input.
  Laid BY PROGRAM, IN A SANDBOX (cutbox-rows.mjs): the forced cells as the released guide's own fill.sh prints them over the translation 0da99fd2c1410085… (all of the seat's roots in one cut). By AI agents, Wed Nov 11 2026. No macro, syntax, notation, axiom, sorry.
-/
import Derived.Test.YtaigapdghhoncaaGreatDoorChecked
import GoSem.PinnedTables
import GoSem.Claim
import GoSem.ClaimJoined
import GoSem.ClaimMapViews
import Derived.JoinedTies
import Derived.KernelRfl
namespace Go.Proofs.YtaigapdghhoncaaGreatDoor
/- THE CELL 'sum', in the pinned program and in every row, IS THE sha256 OF THE DUMP (.gsa) THAT YtaigapdghhoncaaGreatDoorProg.lean LOADS. Nothing in Lean hashes anything: it is a label: what it is worth is what the hold of that sum in a sandbox is worth. -/
noncomputable def Tryz.pinned : Pinned := { name := "ytaigapdghhoncaagreatdoor", sum := "0da99fd2c1410085a5316a64dd8f330b4a84b301cea0a8804782df0f92b3bba7", checked := Tryz.checked }
namespace Rows
def none {H : Type} : Left H := { results := [], args := [] }

/- WHAT THE LISTED PACKAGE-LEVEL VARIABLES READ AS WHEN THE CALL BEGINS. Each datum BY PROGRAM (the guide's laid-datum.mjs) off the statement by which the dump's own 'gosem.cut.vars' lays the variable. In a bare row this is a premise. The card (YtaigapdghhoncaaGreatDoorCards.lean) ties it to the program's text. -/
def laid_unicode_utf8_acceptRanges {H : Type} : DataW H := .agg [.agg [.lit (.int .u8 128), .lit (.int .u8 191)], .agg [.lit (.int .u8 160), .lit (.int .u8 191)], .agg [.lit (.int .u8 128), .lit (.int .u8 159)], .agg [.lit (.int .u8 144), .lit (.int .u8 191)], .agg [.lit (.int .u8 128), .lit (.int .u8 143)], .agg [.lit (.int .u8 0), .lit (.int .u8 0)], .agg [.lit (.int .u8 0), .lit (.int .u8 0)], .agg [.lit (.int .u8 0), .lit (.int .u8 0)], .agg [.lit (.int .u8 0), .lit (.int .u8 0)], .agg [.lit (.int .u8 0), .lit (.int .u8 0)], .agg [.lit (.int .u8 0), .lit (.int .u8 0)], .agg [.lit (.int .u8 0), .lit (.int .u8 0)], .agg [.lit (.int .u8 0), .lit (.int .u8 0)], .agg [.lit (.int .u8 0), .lit (.int .u8 0)], .agg [.lit (.int .u8 0), .lit (.int .u8 0)], .agg [.lit (.int .u8 0), .lit (.int .u8 0)]]
/-- One of Go's own tables, pinned by name: the form's constant. -/
def laid_unicode_utf8_first : DataW Unit := Go.Pinned.utf8First
def laid_math_bits_deBruijn32tab {H : Type} : DataW H := .agg [.lit (.int .u8 0), .lit (.int .u8 1), .lit (.int .u8 28), .lit (.int .u8 2), .lit (.int .u8 29), .lit (.int .u8 14), .lit (.int .u8 24), .lit (.int .u8 3), .lit (.int .u8 30), .lit (.int .u8 22), .lit (.int .u8 20), .lit (.int .u8 15), .lit (.int .u8 25), .lit (.int .u8 17), .lit (.int .u8 4), .lit (.int .u8 8), .lit (.int .u8 31), .lit (.int .u8 27), .lit (.int .u8 13), .lit (.int .u8 23), .lit (.int .u8 21), .lit (.int .u8 19), .lit (.int .u8 16), .lit (.int .u8 7), .lit (.int .u8 26), .lit (.int .u8 12), .lit (.int .u8 18), .lit (.int .u8 6), .lit (.int .u8 11), .lit (.int .u8 5), .lit (.int .u8 10), .lit (.int .u8 9)]
def laid_math_bits_deBruijn64tab {H : Type} : DataW H := .agg [.lit (.int .u8 0), .lit (.int .u8 1), .lit (.int .u8 56), .lit (.int .u8 2), .lit (.int .u8 57), .lit (.int .u8 49), .lit (.int .u8 28), .lit (.int .u8 3), .lit (.int .u8 61), .lit (.int .u8 58), .lit (.int .u8 42), .lit (.int .u8 50), .lit (.int .u8 38), .lit (.int .u8 29), .lit (.int .u8 17), .lit (.int .u8 4), .lit (.int .u8 62), .lit (.int .u8 47), .lit (.int .u8 59), .lit (.int .u8 36), .lit (.int .u8 45), .lit (.int .u8 43), .lit (.int .u8 51), .lit (.int .u8 22), .lit (.int .u8 53), .lit (.int .u8 39), .lit (.int .u8 33), .lit (.int .u8 30), .lit (.int .u8 24), .lit (.int .u8 18), .lit (.int .u8 12), .lit (.int .u8 5), .lit (.int .u8 63), .lit (.int .u8 55), .lit (.int .u8 48), .lit (.int .u8 27), .lit (.int .u8 60), .lit (.int .u8 41), .lit (.int .u8 37), .lit (.int .u8 16), .lit (.int .u8 46), .lit (.int .u8 35), .lit (.int .u8 44), .lit (.int .u8 21), .lit (.int .u8 52), .lit (.int .u8 32), .lit (.int .u8 23), .lit (.int .u8 11), .lit (.int .u8 54), .lit (.int .u8 26), .lit (.int .u8 40), .lit (.int .u8 15), .lit (.int .u8 34), .lit (.int .u8 20), .lit (.int .u8 31), .lit (.int .u8 10), .lit (.int .u8 25), .lit (.int .u8 14), .lit (.int .u8 19), .lit (.int .u8 9), .lit (.int .u8 13), .lit (.int .u8 8), .lit (.int .u8 7), .lit (.int .u8 6)]
def laid_internal_strconv_uint64pow10 {H : Type} : DataW H := .agg [.lit (.int .u64 1), .lit (.int .u64 10), .lit (.int .u64 100), .lit (.int .u64 1000), .lit (.int .u64 10000), .lit (.int .u64 100000), .lit (.int .u64 1000000), .lit (.int .u64 10000000), .lit (.int .u64 100000000), .lit (.int .u64 1000000000), .lit (.int .u64 10000000000), .lit (.int .u64 100000000000), .lit (.int .u64 1000000000000), .lit (.int .u64 10000000000000), .lit (.int .u64 100000000000000), .lit (.int .u64 1000000000000000), .lit (.int .u64 10000000000000000), .lit (.int .u64 100000000000000000), .lit (.int .u64 1000000000000000000), .lit (.int .u64 10000000000000000000)]
def laid_strconv_ErrRange {H : Type} : DataW H := .iface "*errors.errorString" (.ptr (.agg [.lit (.string [118, 97, 108, 117, 101, 32, 111, 117, 116, 32, 111, 102, 32, 114, 97, 110, 103, 101])]))
def laid_strconv_ErrSyntax {H : Type} : DataW H := .iface "*errors.errorString" (.ptr (.agg [.lit (.string [105, 110, 118, 97, 108, 105, 100, 32, 115, 121, 110, 116, 97, 120])]))

/-- 'couchantlaw03.MarkFree': WHATEVER THE INPUT: true; the input reads as it did. -/
def markFreeSpec : ChangeSpec := { name := "markFree", fn := fun _ => fun
  | [d1, d2] => { results := [.lit (.bool true)], args := [d1, d2] }
  | _ => none }
def markFreeRow : OpenClaim := { program := "ytaigapdghhoncaagreatdoor", sum := "0da99fd2c1410085a5316a64dd8f330b4a84b301cea0a8804782df0f92b3bba7", func := "couchant/couchantlaw03.MarkFree", spec := "markFree", inPlace := ["internal/bytealg.CountString", "internal/bytealg.IndexByteString", "internal/bytealg.IndexString"], unfollowed := true, recurses := true, named := ["unicode/utf8.first", "unicode/utf8.acceptRanges", "internal/bytealg.MaxLen"], plainKeys := false, apart := false, laid := [("unicode/utf8.acceptRanges", laid_unicode_utf8_acceptRanges), ("unicode/utf8.first", laid_unicode_utf8_first)] }
def MarkFreeSaid : Prop := markFreeRow.holds Tryz.pinned (OpenSpec.ofChange markFreeSpec)

/-- ITS FALSE NEIGHBOUR: 'it returns false'. Refute it at one input. -/
def markFreeWrong : ChangeSpec := { name := "markFree", fn := fun _ => fun
  | [d1, d2] => { results := [.lit (.bool false)], args := [d1, d2] }
  | _ => none }
def MarkFreeWrongFalsely : Prop := markFreeRow.holds Tryz.pinned (OpenSpec.ofChange markFreeWrong)

/-- 'couchantlaw03.MarkWorn': WHATEVER THE INPUT: true; the input reads as it did. -/
def markWornSpec : ChangeSpec := { name := "markWorn", fn := fun _ => fun
  | [d1, d2, d3, d4] => { results := [.lit (.bool true)], args := [d1, d2, d3, d4] }
  | _ => none }
def markWornRow : OpenClaim := { program := "ytaigapdghhoncaagreatdoor", sum := "0da99fd2c1410085a5316a64dd8f330b4a84b301cea0a8804782df0f92b3bba7", func := "couchant/couchantlaw03.MarkWorn", spec := "markWorn", inPlace := ["internal/bytealg.CountString", "internal/bytealg.IndexByteString", "internal/bytealg.IndexString"], unfollowed := true, recurses := true, named := ["unicode/utf8.first", "unicode/utf8.acceptRanges", "internal/bytealg.MaxLen"], plainKeys := false, apart := false, laid := [("unicode/utf8.acceptRanges", laid_unicode_utf8_acceptRanges), ("unicode/utf8.first", laid_unicode_utf8_first)] }
def MarkWornSaid : Prop := markWornRow.holds Tryz.pinned (OpenSpec.ofChange markWornSpec)

/-- ITS FALSE NEIGHBOUR: 'it returns false'. Refute it at one input. -/
def markWornWrong : ChangeSpec := { name := "markWorn", fn := fun _ => fun
  | [d1, d2, d3, d4] => { results := [.lit (.bool false)], args := [d1, d2, d3, d4] }
  | _ => none }
def MarkWornWrongFalsely : Prop := markWornRow.holds Tryz.pinned (OpenSpec.ofChange markWornWrong)

/-- 'couchantlaw03.MarkMore': WHATEVER THE INPUT: true; the input reads as it did. -/
def markMoreSpec : ChangeSpec := { name := "markMore", fn := fun _ => fun
  | [d1, d2, d3, d4, d5, d6] => { results := [.lit (.bool true)], args := [d1, d2, d3, d4, d5, d6] }
  | _ => none }
def markMoreRow : OpenClaim := { program := "ytaigapdghhoncaagreatdoor", sum := "0da99fd2c1410085a5316a64dd8f330b4a84b301cea0a8804782df0f92b3bba7", func := "couchant/couchantlaw03.MarkMore", spec := "markMore", inPlace := ["internal/bytealg.CountString", "internal/bytealg.IndexByteString", "internal/bytealg.IndexString"], unfollowed := true, recurses := true, named := ["unicode/utf8.first", "unicode/utf8.acceptRanges", "internal/bytealg.MaxLen"], plainKeys := false, apart := false, laid := [("unicode/utf8.acceptRanges", laid_unicode_utf8_acceptRanges), ("unicode/utf8.first", laid_unicode_utf8_first)] }
def MarkMoreSaid : Prop := markMoreRow.holds Tryz.pinned (OpenSpec.ofChange markMoreSpec)

/-- ITS FALSE NEIGHBOUR: 'it returns false'. Refute it at one input. -/
def markMoreWrong : ChangeSpec := { name := "markMore", fn := fun _ => fun
  | [d1, d2, d3, d4, d5, d6] => { results := [.lit (.bool false)], args := [d1, d2, d3, d4, d5, d6] }
  | _ => none }
def MarkMoreWrongFalsely : Prop := markMoreRow.holds Tryz.pinned (OpenSpec.ofChange markMoreWrong)

/-- 'couchantlaw03.MarkAssigns': WHATEVER THE INPUT: true; the input reads as it did. -/
def markAssignsSpec : ChangeSpec := { name := "markAssigns", fn := fun _ => fun
  | [d1, d2, d3, d4, d5] => { results := [.lit (.bool true)], args := [d1, d2, d3, d4, d5] }
  | _ => none }
def markAssignsRow : OpenClaim := { program := "ytaigapdghhoncaagreatdoor", sum := "0da99fd2c1410085a5316a64dd8f330b4a84b301cea0a8804782df0f92b3bba7", func := "couchant/couchantlaw03.MarkAssigns", spec := "markAssigns", inPlace := ["internal/bytealg.CountString", "internal/bytealg.IndexByteString", "internal/bytealg.IndexString"], unfollowed := true, recurses := true, named := ["unicode/utf8.first", "unicode/utf8.acceptRanges", "internal/bytealg.MaxLen"], plainKeys := false, apart := false, laid := [("unicode/utf8.acceptRanges", laid_unicode_utf8_acceptRanges), ("unicode/utf8.first", laid_unicode_utf8_first)] }
def MarkAssignsSaid : Prop := markAssignsRow.holds Tryz.pinned (OpenSpec.ofChange markAssignsSpec)

/-- ITS FALSE NEIGHBOUR: 'it returns false'. Refute it at one input. -/
def markAssignsWrong : ChangeSpec := { name := "markAssigns", fn := fun _ => fun
  | [d1, d2, d3, d4, d5] => { results := [.lit (.bool false)], args := [d1, d2, d3, d4, d5] }
  | _ => none }
def MarkAssignsWrongFalsely : Prop := markAssignsRow.holds Tryz.pinned (OpenSpec.ofChange markAssignsWrong)

/-- 'couchantlaw03.MarkNobody': WHATEVER THE INPUT: true; the input reads as it did. -/
def markNobodySpec : ChangeSpec := { name := "markNobody", fn := fun _ => fun
  | [d1, d2, d3] => { results := [.lit (.bool true)], args := [d1, d2, d3] }
  | _ => none }
def markNobodyRow : OpenClaim := { program := "ytaigapdghhoncaagreatdoor", sum := "0da99fd2c1410085a5316a64dd8f330b4a84b301cea0a8804782df0f92b3bba7", func := "couchant/couchantlaw03.MarkNobody", spec := "markNobody", inPlace := ["internal/bytealg.CountString", "internal/bytealg.IndexByteString", "internal/bytealg.IndexString"], unfollowed := true, recurses := true, named := ["unicode/utf8.first", "unicode/utf8.acceptRanges", "internal/bytealg.MaxLen"], plainKeys := false, apart := false, laid := [("unicode/utf8.acceptRanges", laid_unicode_utf8_acceptRanges), ("unicode/utf8.first", laid_unicode_utf8_first)] }
def MarkNobodySaid : Prop := markNobodyRow.holds Tryz.pinned (OpenSpec.ofChange markNobodySpec)

/-- ITS FALSE NEIGHBOUR: 'it returns false'. Refute it at one input. -/
def markNobodyWrong : ChangeSpec := { name := "markNobody", fn := fun _ => fun
  | [d1, d2, d3] => { results := [.lit (.bool false)], args := [d1, d2, d3] }
  | _ => none }
def MarkNobodyWrongFalsely : Prop := markNobodyRow.holds Tryz.pinned (OpenSpec.ofChange markNobodyWrong)

/-- 'couchantlaw03.MarkSmits': WHATEVER THE INPUT: true; the input reads as it did. -/
def markSmitsSpec : ChangeSpec := { name := "markSmits", fn := fun _ => fun
  | [d1, d2, d3] => { results := [.lit (.bool true)], args := [d1, d2, d3] }
  | _ => none }
def markSmitsRow : OpenClaim := { program := "ytaigapdghhoncaagreatdoor", sum := "0da99fd2c1410085a5316a64dd8f330b4a84b301cea0a8804782df0f92b3bba7", func := "couchant/couchantlaw03.MarkSmits", spec := "markSmits", inPlace := ["internal/bytealg.CountString", "internal/bytealg.IndexByteString", "internal/bytealg.IndexString"], unfollowed := true, recurses := true, named := ["unicode/utf8.first", "unicode/utf8.acceptRanges", "internal/bytealg.MaxLen"], plainKeys := false, apart := false, laid := [("unicode/utf8.acceptRanges", laid_unicode_utf8_acceptRanges), ("unicode/utf8.first", laid_unicode_utf8_first)] }
def MarkSmitsSaid : Prop := markSmitsRow.holds Tryz.pinned (OpenSpec.ofChange markSmitsSpec)

/-- ITS FALSE NEIGHBOUR: 'it returns false'. Refute it at one input. -/
def markSmitsWrong : ChangeSpec := { name := "markSmits", fn := fun _ => fun
  | [d1, d2, d3] => { results := [.lit (.bool false)], args := [d1, d2, d3] }
  | _ => none }
def MarkSmitsWrongFalsely : Prop := markSmitsRow.holds Tryz.pinned (OpenSpec.ofChange markSmitsWrong)

/-- 'couchantlaw03.MarkSights': WHATEVER THE INPUT: true; the input reads as it did. -/
def markSightsSpec : ChangeSpec := { name := "markSights", fn := fun _ => fun
  | [d1, d2, d3, d4] => { results := [.lit (.bool true)], args := [d1, d2, d3, d4] }
  | _ => none }
def markSightsRow : OpenClaim := { program := "ytaigapdghhoncaagreatdoor", sum := "0da99fd2c1410085a5316a64dd8f330b4a84b301cea0a8804782df0f92b3bba7", func := "couchant/couchantlaw03.MarkSights", spec := "markSights", inPlace := ["internal/bytealg.CountString", "internal/bytealg.IndexByteString", "internal/bytealg.IndexString"], unfollowed := true, recurses := true, named := ["unicode/utf8.first", "unicode/utf8.acceptRanges", "internal/bytealg.MaxLen"], plainKeys := false, apart := false, laid := [("unicode/utf8.acceptRanges", laid_unicode_utf8_acceptRanges), ("unicode/utf8.first", laid_unicode_utf8_first)] }
def MarkSightsSaid : Prop := markSightsRow.holds Tryz.pinned (OpenSpec.ofChange markSightsSpec)

/-- ITS FALSE NEIGHBOUR: 'it returns false'. Refute it at one input. -/
def markSightsWrong : ChangeSpec := { name := "markSights", fn := fun _ => fun
  | [d1, d2, d3, d4] => { results := [.lit (.bool false)], args := [d1, d2, d3, d4] }
  | _ => none }
def MarkSightsWrongFalsely : Prop := markSightsRow.holds Tryz.pinned (OpenSpec.ofChange markSightsWrong)

/-- 'couchantlaw03.MarkShort': WHATEVER THE INPUT: true; the input reads as it did. -/
def markShortSpec : ChangeSpec := { name := "markShort", fn := fun _ => fun
  | [d1, d2, d3, d4, d5] => { results := [.lit (.bool true)], args := [d1, d2, d3, d4, d5] }
  | _ => none }
def markShortRow : OpenClaim := { program := "ytaigapdghhoncaagreatdoor", sum := "0da99fd2c1410085a5316a64dd8f330b4a84b301cea0a8804782df0f92b3bba7", func := "couchant/couchantlaw03.MarkShort", spec := "markShort", inPlace := ["internal/bytealg.CountString", "internal/bytealg.IndexByteString", "internal/bytealg.IndexString"], unfollowed := true, recurses := true, named := ["unicode/utf8.first", "unicode/utf8.acceptRanges", "internal/bytealg.MaxLen"], plainKeys := false, apart := false, laid := [("unicode/utf8.acceptRanges", laid_unicode_utf8_acceptRanges), ("unicode/utf8.first", laid_unicode_utf8_first)] }
def MarkShortSaid : Prop := markShortRow.holds Tryz.pinned (OpenSpec.ofChange markShortSpec)

/-- ITS FALSE NEIGHBOUR: 'it returns false'. Refute it at one input. -/
def markShortWrong : ChangeSpec := { name := "markShort", fn := fun _ => fun
  | [d1, d2, d3, d4, d5] => { results := [.lit (.bool false)], args := [d1, d2, d3, d4, d5] }
  | _ => none }
def MarkShortWrongFalsely : Prop := markShortRow.holds Tryz.pinned (OpenSpec.ofChange markShortWrong)

/-- 'couchantlaw03.MarkSure': WHATEVER THE INPUT: true; the input reads as it did. -/
def markSureSpec : ChangeSpec := { name := "markSure", fn := fun _ => fun
  | [d1, d2, d3, d4, d5] => { results := [.lit (.bool true)], args := [d1, d2, d3, d4, d5] }
  | _ => none }
def markSureRow : OpenClaim := { program := "ytaigapdghhoncaagreatdoor", sum := "0da99fd2c1410085a5316a64dd8f330b4a84b301cea0a8804782df0f92b3bba7", func := "couchant/couchantlaw03.MarkSure", spec := "markSure", inPlace := ["internal/bytealg.CountString", "internal/bytealg.IndexByteString", "internal/bytealg.IndexString"], unfollowed := true, recurses := true, named := ["unicode/utf8.first", "unicode/utf8.acceptRanges", "internal/bytealg.MaxLen"], plainKeys := false, apart := false, laid := [("unicode/utf8.acceptRanges", laid_unicode_utf8_acceptRanges), ("unicode/utf8.first", laid_unicode_utf8_first)] }
def MarkSureSaid : Prop := markSureRow.holds Tryz.pinned (OpenSpec.ofChange markSureSpec)

/-- ITS FALSE NEIGHBOUR: 'it returns false'. Refute it at one input. -/
def markSureWrong : ChangeSpec := { name := "markSure", fn := fun _ => fun
  | [d1, d2, d3, d4, d5] => { results := [.lit (.bool false)], args := [d1, d2, d3, d4, d5] }
  | _ => none }
def MarkSureWrongFalsely : Prop := markSureRow.holds Tryz.pinned (OpenSpec.ofChange markSureWrong)

/-- 'couchantlaw03.MarkCertain': WHATEVER THE INPUT: true; the input reads as it did. -/
def markCertainSpec : ChangeSpec := { name := "markCertain", fn := fun _ => fun
  | [d1, d2, d3, d4, d5] => { results := [.lit (.bool true)], args := [d1, d2, d3, d4, d5] }
  | _ => none }
def markCertainRow : OpenClaim := { program := "ytaigapdghhoncaagreatdoor", sum := "0da99fd2c1410085a5316a64dd8f330b4a84b301cea0a8804782df0f92b3bba7", func := "couchant/couchantlaw03.MarkCertain", spec := "markCertain", inPlace := ["internal/bytealg.CountString", "internal/bytealg.IndexByteString", "internal/bytealg.IndexString"], unfollowed := true, recurses := true, named := ["unicode/utf8.first", "unicode/utf8.acceptRanges", "internal/bytealg.MaxLen"], plainKeys := false, apart := false, laid := [("unicode/utf8.acceptRanges", laid_unicode_utf8_acceptRanges), ("unicode/utf8.first", laid_unicode_utf8_first)] }
def MarkCertainSaid : Prop := markCertainRow.holds Tryz.pinned (OpenSpec.ofChange markCertainSpec)

/-- ITS FALSE NEIGHBOUR: 'it returns false'. Refute it at one input. -/
def markCertainWrong : ChangeSpec := { name := "markCertain", fn := fun _ => fun
  | [d1, d2, d3, d4, d5] => { results := [.lit (.bool false)], args := [d1, d2, d3, d4, d5] }
  | _ => none }
def MarkCertainWrongFalsely : Prop := markCertainRow.holds Tryz.pinned (OpenSpec.ofChange markCertainWrong)

/-- 'couchantlaw03.MarkAlike': WHATEVER THE INPUT: true; the input reads as it did. -/
def markAlikeSpec : ChangeSpec := { name := "markAlike", fn := fun _ => fun
  | [d1, d2, d3, d4, d5, d6] => { results := [.lit (.bool true)], args := [d1, d2, d3, d4, d5, d6] }
  | _ => none }
def markAlikeRow : OpenClaim := { program := "ytaigapdghhoncaagreatdoor", sum := "0da99fd2c1410085a5316a64dd8f330b4a84b301cea0a8804782df0f92b3bba7", func := "couchant/couchantlaw03.MarkAlike", spec := "markAlike", inPlace := ["internal/bytealg.CountString", "internal/bytealg.IndexByteString", "internal/bytealg.IndexString"], unfollowed := true, recurses := true, named := ["unicode/utf8.first", "unicode/utf8.acceptRanges", "internal/bytealg.MaxLen"], plainKeys := false, apart := false, laid := [("unicode/utf8.acceptRanges", laid_unicode_utf8_acceptRanges), ("unicode/utf8.first", laid_unicode_utf8_first)] }
def MarkAlikeSaid : Prop := markAlikeRow.holds Tryz.pinned (OpenSpec.ofChange markAlikeSpec)

/-- ITS FALSE NEIGHBOUR: 'it returns false'. Refute it at one input. -/
def markAlikeWrong : ChangeSpec := { name := "markAlike", fn := fun _ => fun
  | [d1, d2, d3, d4, d5, d6] => { results := [.lit (.bool false)], args := [d1, d2, d3, d4, d5, d6] }
  | _ => none }
def MarkAlikeWrongFalsely : Prop := markAlikeRow.holds Tryz.pinned (OpenSpec.ofChange markAlikeWrong)

/-- 'couchantlaw03.MarkEither': WHATEVER THE INPUT: true; the input reads as it did. -/
def markEitherSpec : ChangeSpec := { name := "markEither", fn := fun _ => fun
  | [d1, d2, d3, d4, d5, d6] => { results := [.lit (.bool true)], args := [d1, d2, d3, d4, d5, d6] }
  | _ => none }
def markEitherRow : OpenClaim := { program := "ytaigapdghhoncaagreatdoor", sum := "0da99fd2c1410085a5316a64dd8f330b4a84b301cea0a8804782df0f92b3bba7", func := "couchant/couchantlaw03.MarkEither", spec := "markEither", inPlace := ["internal/bytealg.CountString", "internal/bytealg.IndexByteString", "internal/bytealg.IndexString"], unfollowed := true, recurses := true, named := ["unicode/utf8.first", "unicode/utf8.acceptRanges", "internal/bytealg.MaxLen"], plainKeys := false, apart := false, laid := [("unicode/utf8.acceptRanges", laid_unicode_utf8_acceptRanges), ("unicode/utf8.first", laid_unicode_utf8_first)] }
def MarkEitherSaid : Prop := markEitherRow.holds Tryz.pinned (OpenSpec.ofChange markEitherSpec)

/-- ITS FALSE NEIGHBOUR: 'it returns false'. Refute it at one input. -/
def markEitherWrong : ChangeSpec := { name := "markEither", fn := fun _ => fun
  | [d1, d2, d3, d4, d5, d6] => { results := [.lit (.bool false)], args := [d1, d2, d3, d4, d5, d6] }
  | _ => none }
def MarkEitherWrongFalsely : Prop := markEitherRow.holds Tryz.pinned (OpenSpec.ofChange markEitherWrong)

/-- 'couchantlaw03.MarkRange': WHATEVER THE INPUT: true; the input reads as it did. -/
def markRangeSpec : ChangeSpec := { name := "markRange", fn := fun _ => fun
  | [d1, d2, d3, d4, d5, d6] => { results := [.lit (.bool true)], args := [d1, d2, d3, d4, d5, d6] }
  | _ => none }
def markRangeRow : OpenClaim := { program := "ytaigapdghhoncaagreatdoor", sum := "0da99fd2c1410085a5316a64dd8f330b4a84b301cea0a8804782df0f92b3bba7", func := "couchant/couchantlaw03.MarkRange", spec := "markRange", inPlace := ["internal/bytealg.CountString", "internal/bytealg.IndexByteString", "internal/bytealg.IndexString"], unfollowed := true, recurses := true, named := ["unicode/utf8.first", "unicode/utf8.acceptRanges", "internal/bytealg.MaxLen"], plainKeys := false, apart := false, laid := [("unicode/utf8.acceptRanges", laid_unicode_utf8_acceptRanges), ("unicode/utf8.first", laid_unicode_utf8_first)] }
def MarkRangeSaid : Prop := markRangeRow.holds Tryz.pinned (OpenSpec.ofChange markRangeSpec)

/-- ITS FALSE NEIGHBOUR: 'it returns false'. Refute it at one input. -/
def markRangeWrong : ChangeSpec := { name := "markRange", fn := fun _ => fun
  | [d1, d2, d3, d4, d5, d6] => { results := [.lit (.bool false)], args := [d1, d2, d3, d4, d5, d6] }
  | _ => none }
def MarkRangeWrongFalsely : Prop := markRangeRow.holds Tryz.pinned (OpenSpec.ofChange markRangeWrong)

/-- 'couchantlaw03.MarkFound': WHATEVER THE INPUT: true; the input reads as it did. -/
def markFoundSpec : ChangeSpec := { name := "markFound", fn := fun _ => fun
  | [d1, d2, d3, d4] => { results := [.lit (.bool true)], args := [d1, d2, d3, d4] }
  | _ => none }
def markFoundRow : OpenClaim := { program := "ytaigapdghhoncaagreatdoor", sum := "0da99fd2c1410085a5316a64dd8f330b4a84b301cea0a8804782df0f92b3bba7", func := "couchant/couchantlaw03.MarkFound", spec := "markFound", inPlace := ["internal/bytealg.CountString", "internal/bytealg.IndexByteString", "internal/bytealg.IndexString", "slices.overlaps[couchant/api.Group]"], unfollowed := true, recurses := true, named := ["unicode/utf8.first", "unicode/utf8.acceptRanges", "internal/bytealg.MaxLen"], plainKeys := false, apart := false, laid := [("unicode/utf8.acceptRanges", laid_unicode_utf8_acceptRanges), ("unicode/utf8.first", laid_unicode_utf8_first)] }
def MarkFoundSaid : Prop := markFoundRow.holds Tryz.pinned (OpenSpec.ofChange markFoundSpec)

/-- ITS FALSE NEIGHBOUR: 'it returns false'. Refute it at one input. -/
def markFoundWrong : ChangeSpec := { name := "markFound", fn := fun _ => fun
  | [d1, d2, d3, d4] => { results := [.lit (.bool false)], args := [d1, d2, d3, d4] }
  | _ => none }
def MarkFoundWrongFalsely : Prop := markFoundRow.holds Tryz.pinned (OpenSpec.ofChange markFoundWrong)

/-- 'couchantlaw03.MarkGroups': WHATEVER THE INPUT: true; the input reads as it did. -/
def markGroupsSpec : ChangeSpec := { name := "markGroups", fn := fun _ => fun
  | [d1, d2, d3] => { results := [.lit (.bool true)], args := [d1, d2, d3] }
  | _ => none }
def markGroupsRow : OpenClaim := { program := "ytaigapdghhoncaagreatdoor", sum := "0da99fd2c1410085a5316a64dd8f330b4a84b301cea0a8804782df0f92b3bba7", func := "couchant/couchantlaw03.MarkGroups", spec := "markGroups", inPlace := ["internal/bytealg.CountString", "internal/bytealg.IndexByteString", "internal/bytealg.IndexString", "slices.overlaps[couchant/api.Group]"], unfollowed := true, recurses := true, named := ["unicode/utf8.first", "unicode/utf8.acceptRanges", "internal/bytealg.MaxLen"], plainKeys := false, apart := false, laid := [("unicode/utf8.acceptRanges", laid_unicode_utf8_acceptRanges), ("unicode/utf8.first", laid_unicode_utf8_first)] }
def MarkGroupsSaid : Prop := markGroupsRow.holds Tryz.pinned (OpenSpec.ofChange markGroupsSpec)

/-- ITS FALSE NEIGHBOUR: 'it returns false'. Refute it at one input. -/
def markGroupsWrong : ChangeSpec := { name := "markGroups", fn := fun _ => fun
  | [d1, d2, d3] => { results := [.lit (.bool false)], args := [d1, d2, d3] }
  | _ => none }
def MarkGroupsWrongFalsely : Prop := markGroupsRow.holds Tryz.pinned (OpenSpec.ofChange markGroupsWrong)

/-- 'couchantlaw03.MarkTexts': WHATEVER THE INPUT: true; the input reads as it did. -/
def markTextsSpec : ChangeSpec := { name := "markTexts", fn := fun _ => fun
  | [d1, d2, d3] => { results := [.lit (.bool true)], args := [d1, d2, d3] }
  | _ => none }
def markTextsRow : OpenClaim := { program := "ytaigapdghhoncaagreatdoor", sum := "0da99fd2c1410085a5316a64dd8f330b4a84b301cea0a8804782df0f92b3bba7", func := "couchant/couchantlaw03.MarkTexts", spec := "markTexts", inPlace := ["internal/bytealg.CountString", "internal/bytealg.IndexByteString", "internal/bytealg.IndexString", "internal/abi.NoEscape", "internal/bytealg.MakeNoZero"], unfollowed := true, recurses := true, named := ["unicode/utf8.first", "unicode/utf8.acceptRanges", "internal/bytealg.MaxLen", "internal/strconv.uint64pow10", "math/bits.deBruijn32tab", "math/bits.deBruijn64tab", "strconv.ErrSyntax", "strconv.ErrRange"], plainKeys := false, apart := false, laid := [("math/bits.deBruijn32tab", laid_math_bits_deBruijn32tab), ("math/bits.deBruijn64tab", laid_math_bits_deBruijn64tab), ("internal/strconv.uint64pow10", laid_internal_strconv_uint64pow10), ("unicode/utf8.acceptRanges", laid_unicode_utf8_acceptRanges), ("strconv.ErrRange", laid_strconv_ErrRange), ("strconv.ErrSyntax", laid_strconv_ErrSyntax), ("unicode/utf8.first", laid_unicode_utf8_first)] }
def MarkTextsSaid : Prop := markTextsRow.holds Tryz.pinned (OpenSpec.ofChange markTextsSpec)

/-- ITS FALSE NEIGHBOUR: 'it returns false'. Refute it at one input. -/
def markTextsWrong : ChangeSpec := { name := "markTexts", fn := fun _ => fun
  | [d1, d2, d3] => { results := [.lit (.bool false)], args := [d1, d2, d3] }
  | _ => none }
def MarkTextsWrongFalsely : Prop := markTextsRow.holds Tryz.pinned (OpenSpec.ofChange markTextsWrong)

/- THE SECOND FORM. 'bulk': how many values and letters a reading holds, each counted each time it is reached (what is shared counts as often as it is met; a slice's spare places count too). A statement '..UptoSaid' is the law's where the arguments, and the package variables that the reading takes, are together of bulk at most 1048576: NARROWER than '..Said'. Prove '..Said' where nothing that the law and all that it calls make is longer than what came in: it says more and counts as full. Else prove '..UptoSaid'. A law counts once. -/
mutual
def uptoBulk {H : Type} : DataW H → Nat
  | .lit (.string bytes) => bytes.length + 1
  | .lit _ => 1
  | .nil => 1
  | .ptr d => uptoBulk d + 1
  | .slice elems spare => uptoBulkAll elems + uptoBulkAll spare + 1
  | .agg parts => uptoBulkAll parts + 1
  | .iface _ d => uptoBulk d + 1
  | .map entries => uptoBulkEntries entries + 1
  | .held _ => 1
def uptoBulkAll {H : Type} : List (DataW H) → Nat
  | [] => 0
  | d :: r => uptoBulk d + uptoBulkAll r
def uptoBulkEntries {H : Type} : List (Lit × DataW H) → Nat
  | [] => 0
  | x :: r => uptoBulkEntry x + uptoBulkEntries r
def uptoBulkEntry {H : Type} : Lit × DataW H → Nat
  | (.string bytes, d) => bytes.length + uptoBulk d + 1
  | (_, d) => uptoBulk d + 1
 end
def uptoSmall : (H : Type) → List (DataW H) → Bool := fun _ ds => decide (uptoBulkAll ds ≤ 1048576)
def OpenSpec.upto (s : _root_.Go.ChangeSpec) : _root_.Go.OpenSpec := { _root_.Go.OpenSpec.ofChange s with cond := some uptoSmall }

/-- 'couchantlaw03.MarkFree', WHERE WHAT IT READS IS OF BULK AT MOST 1048576: true; the input reads as it did. -/
def markFreeUptoRow : OpenClaim := { program := "ytaigapdghhoncaagreatdoor", sum := "0da99fd2c1410085a5316a64dd8f330b4a84b301cea0a8804782df0f92b3bba7", func := "couchant/couchantlaw03.MarkFree", spec := "markFree", inPlace := ["internal/bytealg.CountString", "internal/bytealg.IndexByteString", "internal/bytealg.IndexString"], unfollowed := true, recurses := true, named := ["unicode/utf8.first", "unicode/utf8.acceptRanges", "internal/bytealg.MaxLen"], plainKeys := false, apart := false, laid := [("unicode/utf8.acceptRanges", laid_unicode_utf8_acceptRanges), ("unicode/utf8.first", laid_unicode_utf8_first)], narrowed := true }
def MarkFreeUptoSaid : Prop := markFreeUptoRow.holds Tryz.pinned (OpenSpec.upto markFreeSpec)

/-- 'couchantlaw03.MarkWorn', WHERE WHAT IT READS IS OF BULK AT MOST 1048576: true; the input reads as it did. -/
def markWornUptoRow : OpenClaim := { program := "ytaigapdghhoncaagreatdoor", sum := "0da99fd2c1410085a5316a64dd8f330b4a84b301cea0a8804782df0f92b3bba7", func := "couchant/couchantlaw03.MarkWorn", spec := "markWorn", inPlace := ["internal/bytealg.CountString", "internal/bytealg.IndexByteString", "internal/bytealg.IndexString"], unfollowed := true, recurses := true, named := ["unicode/utf8.first", "unicode/utf8.acceptRanges", "internal/bytealg.MaxLen"], plainKeys := false, apart := false, laid := [("unicode/utf8.acceptRanges", laid_unicode_utf8_acceptRanges), ("unicode/utf8.first", laid_unicode_utf8_first)], narrowed := true }
def MarkWornUptoSaid : Prop := markWornUptoRow.holds Tryz.pinned (OpenSpec.upto markWornSpec)

/-- 'couchantlaw03.MarkMore', WHERE WHAT IT READS IS OF BULK AT MOST 1048576: true; the input reads as it did. -/
def markMoreUptoRow : OpenClaim := { program := "ytaigapdghhoncaagreatdoor", sum := "0da99fd2c1410085a5316a64dd8f330b4a84b301cea0a8804782df0f92b3bba7", func := "couchant/couchantlaw03.MarkMore", spec := "markMore", inPlace := ["internal/bytealg.CountString", "internal/bytealg.IndexByteString", "internal/bytealg.IndexString"], unfollowed := true, recurses := true, named := ["unicode/utf8.first", "unicode/utf8.acceptRanges", "internal/bytealg.MaxLen"], plainKeys := false, apart := false, laid := [("unicode/utf8.acceptRanges", laid_unicode_utf8_acceptRanges), ("unicode/utf8.first", laid_unicode_utf8_first)], narrowed := true }
def MarkMoreUptoSaid : Prop := markMoreUptoRow.holds Tryz.pinned (OpenSpec.upto markMoreSpec)

/-- 'couchantlaw03.MarkAssigns', WHERE WHAT IT READS IS OF BULK AT MOST 1048576: true; the input reads as it did. -/
def markAssignsUptoRow : OpenClaim := { program := "ytaigapdghhoncaagreatdoor", sum := "0da99fd2c1410085a5316a64dd8f330b4a84b301cea0a8804782df0f92b3bba7", func := "couchant/couchantlaw03.MarkAssigns", spec := "markAssigns", inPlace := ["internal/bytealg.CountString", "internal/bytealg.IndexByteString", "internal/bytealg.IndexString"], unfollowed := true, recurses := true, named := ["unicode/utf8.first", "unicode/utf8.acceptRanges", "internal/bytealg.MaxLen"], plainKeys := false, apart := false, laid := [("unicode/utf8.acceptRanges", laid_unicode_utf8_acceptRanges), ("unicode/utf8.first", laid_unicode_utf8_first)], narrowed := true }
def MarkAssignsUptoSaid : Prop := markAssignsUptoRow.holds Tryz.pinned (OpenSpec.upto markAssignsSpec)

/-- 'couchantlaw03.MarkNobody', WHERE WHAT IT READS IS OF BULK AT MOST 1048576: true; the input reads as it did. -/
def markNobodyUptoRow : OpenClaim := { program := "ytaigapdghhoncaagreatdoor", sum := "0da99fd2c1410085a5316a64dd8f330b4a84b301cea0a8804782df0f92b3bba7", func := "couchant/couchantlaw03.MarkNobody", spec := "markNobody", inPlace := ["internal/bytealg.CountString", "internal/bytealg.IndexByteString", "internal/bytealg.IndexString"], unfollowed := true, recurses := true, named := ["unicode/utf8.first", "unicode/utf8.acceptRanges", "internal/bytealg.MaxLen"], plainKeys := false, apart := false, laid := [("unicode/utf8.acceptRanges", laid_unicode_utf8_acceptRanges), ("unicode/utf8.first", laid_unicode_utf8_first)], narrowed := true }
def MarkNobodyUptoSaid : Prop := markNobodyUptoRow.holds Tryz.pinned (OpenSpec.upto markNobodySpec)

/-- 'couchantlaw03.MarkSmits', WHERE WHAT IT READS IS OF BULK AT MOST 1048576: true; the input reads as it did. -/
def markSmitsUptoRow : OpenClaim := { program := "ytaigapdghhoncaagreatdoor", sum := "0da99fd2c1410085a5316a64dd8f330b4a84b301cea0a8804782df0f92b3bba7", func := "couchant/couchantlaw03.MarkSmits", spec := "markSmits", inPlace := ["internal/bytealg.CountString", "internal/bytealg.IndexByteString", "internal/bytealg.IndexString"], unfollowed := true, recurses := true, named := ["unicode/utf8.first", "unicode/utf8.acceptRanges", "internal/bytealg.MaxLen"], plainKeys := false, apart := false, laid := [("unicode/utf8.acceptRanges", laid_unicode_utf8_acceptRanges), ("unicode/utf8.first", laid_unicode_utf8_first)], narrowed := true }
def MarkSmitsUptoSaid : Prop := markSmitsUptoRow.holds Tryz.pinned (OpenSpec.upto markSmitsSpec)

/-- 'couchantlaw03.MarkSights', WHERE WHAT IT READS IS OF BULK AT MOST 1048576: true; the input reads as it did. -/
def markSightsUptoRow : OpenClaim := { program := "ytaigapdghhoncaagreatdoor", sum := "0da99fd2c1410085a5316a64dd8f330b4a84b301cea0a8804782df0f92b3bba7", func := "couchant/couchantlaw03.MarkSights", spec := "markSights", inPlace := ["internal/bytealg.CountString", "internal/bytealg.IndexByteString", "internal/bytealg.IndexString"], unfollowed := true, recurses := true, named := ["unicode/utf8.first", "unicode/utf8.acceptRanges", "internal/bytealg.MaxLen"], plainKeys := false, apart := false, laid := [("unicode/utf8.acceptRanges", laid_unicode_utf8_acceptRanges), ("unicode/utf8.first", laid_unicode_utf8_first)], narrowed := true }
def MarkSightsUptoSaid : Prop := markSightsUptoRow.holds Tryz.pinned (OpenSpec.upto markSightsSpec)

/-- 'couchantlaw03.MarkShort', WHERE WHAT IT READS IS OF BULK AT MOST 1048576: true; the input reads as it did. -/
def markShortUptoRow : OpenClaim := { program := "ytaigapdghhoncaagreatdoor", sum := "0da99fd2c1410085a5316a64dd8f330b4a84b301cea0a8804782df0f92b3bba7", func := "couchant/couchantlaw03.MarkShort", spec := "markShort", inPlace := ["internal/bytealg.CountString", "internal/bytealg.IndexByteString", "internal/bytealg.IndexString"], unfollowed := true, recurses := true, named := ["unicode/utf8.first", "unicode/utf8.acceptRanges", "internal/bytealg.MaxLen"], plainKeys := false, apart := false, laid := [("unicode/utf8.acceptRanges", laid_unicode_utf8_acceptRanges), ("unicode/utf8.first", laid_unicode_utf8_first)], narrowed := true }
def MarkShortUptoSaid : Prop := markShortUptoRow.holds Tryz.pinned (OpenSpec.upto markShortSpec)

/-- 'couchantlaw03.MarkSure', WHERE WHAT IT READS IS OF BULK AT MOST 1048576: true; the input reads as it did. -/
def markSureUptoRow : OpenClaim := { program := "ytaigapdghhoncaagreatdoor", sum := "0da99fd2c1410085a5316a64dd8f330b4a84b301cea0a8804782df0f92b3bba7", func := "couchant/couchantlaw03.MarkSure", spec := "markSure", inPlace := ["internal/bytealg.CountString", "internal/bytealg.IndexByteString", "internal/bytealg.IndexString"], unfollowed := true, recurses := true, named := ["unicode/utf8.first", "unicode/utf8.acceptRanges", "internal/bytealg.MaxLen"], plainKeys := false, apart := false, laid := [("unicode/utf8.acceptRanges", laid_unicode_utf8_acceptRanges), ("unicode/utf8.first", laid_unicode_utf8_first)], narrowed := true }
def MarkSureUptoSaid : Prop := markSureUptoRow.holds Tryz.pinned (OpenSpec.upto markSureSpec)

/-- 'couchantlaw03.MarkCertain', WHERE WHAT IT READS IS OF BULK AT MOST 1048576: true; the input reads as it did. -/
def markCertainUptoRow : OpenClaim := { program := "ytaigapdghhoncaagreatdoor", sum := "0da99fd2c1410085a5316a64dd8f330b4a84b301cea0a8804782df0f92b3bba7", func := "couchant/couchantlaw03.MarkCertain", spec := "markCertain", inPlace := ["internal/bytealg.CountString", "internal/bytealg.IndexByteString", "internal/bytealg.IndexString"], unfollowed := true, recurses := true, named := ["unicode/utf8.first", "unicode/utf8.acceptRanges", "internal/bytealg.MaxLen"], plainKeys := false, apart := false, laid := [("unicode/utf8.acceptRanges", laid_unicode_utf8_acceptRanges), ("unicode/utf8.first", laid_unicode_utf8_first)], narrowed := true }
def MarkCertainUptoSaid : Prop := markCertainUptoRow.holds Tryz.pinned (OpenSpec.upto markCertainSpec)

/-- 'couchantlaw03.MarkAlike', WHERE WHAT IT READS IS OF BULK AT MOST 1048576: true; the input reads as it did. -/
def markAlikeUptoRow : OpenClaim := { program := "ytaigapdghhoncaagreatdoor", sum := "0da99fd2c1410085a5316a64dd8f330b4a84b301cea0a8804782df0f92b3bba7", func := "couchant/couchantlaw03.MarkAlike", spec := "markAlike", inPlace := ["internal/bytealg.CountString", "internal/bytealg.IndexByteString", "internal/bytealg.IndexString"], unfollowed := true, recurses := true, named := ["unicode/utf8.first", "unicode/utf8.acceptRanges", "internal/bytealg.MaxLen"], plainKeys := false, apart := false, laid := [("unicode/utf8.acceptRanges", laid_unicode_utf8_acceptRanges), ("unicode/utf8.first", laid_unicode_utf8_first)], narrowed := true }
def MarkAlikeUptoSaid : Prop := markAlikeUptoRow.holds Tryz.pinned (OpenSpec.upto markAlikeSpec)

/-- 'couchantlaw03.MarkEither', WHERE WHAT IT READS IS OF BULK AT MOST 1048576: true; the input reads as it did. -/
def markEitherUptoRow : OpenClaim := { program := "ytaigapdghhoncaagreatdoor", sum := "0da99fd2c1410085a5316a64dd8f330b4a84b301cea0a8804782df0f92b3bba7", func := "couchant/couchantlaw03.MarkEither", spec := "markEither", inPlace := ["internal/bytealg.CountString", "internal/bytealg.IndexByteString", "internal/bytealg.IndexString"], unfollowed := true, recurses := true, named := ["unicode/utf8.first", "unicode/utf8.acceptRanges", "internal/bytealg.MaxLen"], plainKeys := false, apart := false, laid := [("unicode/utf8.acceptRanges", laid_unicode_utf8_acceptRanges), ("unicode/utf8.first", laid_unicode_utf8_first)], narrowed := true }
def MarkEitherUptoSaid : Prop := markEitherUptoRow.holds Tryz.pinned (OpenSpec.upto markEitherSpec)

/-- 'couchantlaw03.MarkRange', WHERE WHAT IT READS IS OF BULK AT MOST 1048576: true; the input reads as it did. -/
def markRangeUptoRow : OpenClaim := { program := "ytaigapdghhoncaagreatdoor", sum := "0da99fd2c1410085a5316a64dd8f330b4a84b301cea0a8804782df0f92b3bba7", func := "couchant/couchantlaw03.MarkRange", spec := "markRange", inPlace := ["internal/bytealg.CountString", "internal/bytealg.IndexByteString", "internal/bytealg.IndexString"], unfollowed := true, recurses := true, named := ["unicode/utf8.first", "unicode/utf8.acceptRanges", "internal/bytealg.MaxLen"], plainKeys := false, apart := false, laid := [("unicode/utf8.acceptRanges", laid_unicode_utf8_acceptRanges), ("unicode/utf8.first", laid_unicode_utf8_first)], narrowed := true }
def MarkRangeUptoSaid : Prop := markRangeUptoRow.holds Tryz.pinned (OpenSpec.upto markRangeSpec)

/-- 'couchantlaw03.MarkFound', WHERE WHAT IT READS IS OF BULK AT MOST 1048576: true; the input reads as it did. -/
def markFoundUptoRow : OpenClaim := { program := "ytaigapdghhoncaagreatdoor", sum := "0da99fd2c1410085a5316a64dd8f330b4a84b301cea0a8804782df0f92b3bba7", func := "couchant/couchantlaw03.MarkFound", spec := "markFound", inPlace := ["internal/bytealg.CountString", "internal/bytealg.IndexByteString", "internal/bytealg.IndexString", "slices.overlaps[couchant/api.Group]"], unfollowed := true, recurses := true, named := ["unicode/utf8.first", "unicode/utf8.acceptRanges", "internal/bytealg.MaxLen"], plainKeys := false, apart := false, laid := [("unicode/utf8.acceptRanges", laid_unicode_utf8_acceptRanges), ("unicode/utf8.first", laid_unicode_utf8_first)], narrowed := true }
def MarkFoundUptoSaid : Prop := markFoundUptoRow.holds Tryz.pinned (OpenSpec.upto markFoundSpec)

/-- 'couchantlaw03.MarkGroups', WHERE WHAT IT READS IS OF BULK AT MOST 1048576: true; the input reads as it did. -/
def markGroupsUptoRow : OpenClaim := { program := "ytaigapdghhoncaagreatdoor", sum := "0da99fd2c1410085a5316a64dd8f330b4a84b301cea0a8804782df0f92b3bba7", func := "couchant/couchantlaw03.MarkGroups", spec := "markGroups", inPlace := ["internal/bytealg.CountString", "internal/bytealg.IndexByteString", "internal/bytealg.IndexString", "slices.overlaps[couchant/api.Group]"], unfollowed := true, recurses := true, named := ["unicode/utf8.first", "unicode/utf8.acceptRanges", "internal/bytealg.MaxLen"], plainKeys := false, apart := false, laid := [("unicode/utf8.acceptRanges", laid_unicode_utf8_acceptRanges), ("unicode/utf8.first", laid_unicode_utf8_first)], narrowed := true }
def MarkGroupsUptoSaid : Prop := markGroupsUptoRow.holds Tryz.pinned (OpenSpec.upto markGroupsSpec)

/-- 'couchantlaw03.MarkTexts', WHERE WHAT IT READS IS OF BULK AT MOST 1048576: true; the input reads as it did. -/
def markTextsUptoRow : OpenClaim := { program := "ytaigapdghhoncaagreatdoor", sum := "0da99fd2c1410085a5316a64dd8f330b4a84b301cea0a8804782df0f92b3bba7", func := "couchant/couchantlaw03.MarkTexts", spec := "markTexts", inPlace := ["internal/bytealg.CountString", "internal/bytealg.IndexByteString", "internal/bytealg.IndexString", "internal/abi.NoEscape", "internal/bytealg.MakeNoZero"], unfollowed := true, recurses := true, named := ["unicode/utf8.first", "unicode/utf8.acceptRanges", "internal/bytealg.MaxLen", "internal/strconv.uint64pow10", "math/bits.deBruijn32tab", "math/bits.deBruijn64tab", "strconv.ErrSyntax", "strconv.ErrRange"], plainKeys := false, apart := false, laid := [("math/bits.deBruijn32tab", laid_math_bits_deBruijn32tab), ("math/bits.deBruijn64tab", laid_math_bits_deBruijn64tab), ("internal/strconv.uint64pow10", laid_internal_strconv_uint64pow10), ("unicode/utf8.acceptRanges", laid_unicode_utf8_acceptRanges), ("strconv.ErrRange", laid_strconv_ErrRange), ("strconv.ErrSyntax", laid_strconv_ErrSyntax), ("unicode/utf8.first", laid_unicode_utf8_first)], narrowed := true }
def MarkTextsUptoSaid : Prop := markTextsUptoRow.holds Tryz.pinned (OpenSpec.upto markTextsSpec)

end Rows
end Go.Proofs.YtaigapdghhoncaaGreatDoor
