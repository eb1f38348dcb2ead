/-
  No cell of these rows narrows 'for every input' (looked for: loops, veiled, ifaces, maps, wideKeys, modest, calm, conditions, laid).
  DERIVED. THE GIVEN ROWS OF THIS SEAT. 18 by the template 'for every input the law returns true; each argument reads behind the call as it read before'; 0 by the template 'total and deterministic' (their statements: YtdikpjkdbgfoaaaGreatTotals.lean).
  GIVEN WITH THE SEED: the statements are not yours to turn. If you find one false, say at which input.
  Laid BY PROGRAM, IN A SANDBOX (cutbox-rows.mjs): the forced cells as the released guide's own fill.sh prints them over the translation de46f440d5ac97d7… (all of the seat's roots in one cut). By AI agents, Wed Nov 11 2026. No macro, syntax, notation, axiom, sorry.
-/
import Derived.Test.YtdikpjkdbgfoaaaGreatChecked
import GoSem.Claim
import GoSem.ClaimJoined
import GoSem.ClaimMapViews
import Derived.JoinedTies
import Derived.KernelRfl
namespace Go.Proofs.YtdikpjkdbgfoaaaGreat
/- THE CELL 'sum', in the pinned program and in every row, IS THE sha256 OF THE DUMP (.gsa) THAT YtdikpjkdbgfoaaaGreatProg.lean LOADS. Nothing in Lean hashes anything: it is a label: what it is worth is what the hold of that sum in a sandbox is worth. -/
noncomputable def Tryz.pinned : Pinned := { name := "ytdikpjkdbgfoaaagreat", sum := "de46f440d5ac97d70132e9de04f0fc579be7c0b1d70184fd8f8627bb56ccad0b", checked := Tryz.checked }
namespace Rows
def none {H : Type} : Left H := { results := [], args := [] }

/-- 'couchantlaw02.DeedMost': WHATEVER THE INPUT: true; the input reads as it did. -/
def deedMostSpec : ChangeSpec := { name := "deedMost", fn := fun _ => fun
  | [d1, d2] => { results := [.lit (.bool true)], args := [d1, d2] }
  | _ => none }
def deedMostRow : OpenClaim := { program := "ytdikpjkdbgfoaaagreat", sum := "de46f440d5ac97d70132e9de04f0fc579be7c0b1d70184fd8f8627bb56ccad0b", func := "couchant/couchantlaw02.DeedMost", spec := "deedMost", unfollowed := true, recurses := true, apart := false }
def DeedMostSaid : Prop := deedMostRow.holds Tryz.pinned (OpenSpec.ofChange deedMostSpec)

/-- ITS FALSE NEIGHBOUR: 'it returns false'. Refute it at one input. -/
def deedMostWrong : ChangeSpec := { name := "deedMost", fn := fun _ => fun
  | [d1, d2] => { results := [.lit (.bool false)], args := [d1, d2] }
  | _ => none }
def DeedMostWrongFalsely : Prop := deedMostRow.holds Tryz.pinned (OpenSpec.ofChange deedMostWrong)

/-- 'couchantlaw02.DeedPossible': WHATEVER THE INPUT: true; the input reads as it did. -/
def deedPossibleSpec : ChangeSpec := { name := "deedPossible", fn := fun _ => fun
  | [d1, d2, d3] => { results := [.lit (.bool true)], args := [d1, d2, d3] }
  | _ => none }
def deedPossibleRow : OpenClaim := { program := "ytdikpjkdbgfoaaagreat", sum := "de46f440d5ac97d70132e9de04f0fc579be7c0b1d70184fd8f8627bb56ccad0b", func := "couchant/couchantlaw02.DeedPossible", spec := "deedPossible", unfollowed := true, recurses := true, apart := false }
def DeedPossibleSaid : Prop := deedPossibleRow.holds Tryz.pinned (OpenSpec.ofChange deedPossibleSpec)

/-- ITS FALSE NEIGHBOUR: 'it returns false'. Refute it at one input. -/
def deedPossibleWrong : ChangeSpec := { name := "deedPossible", fn := fun _ => fun
  | [d1, d2, d3] => { results := [.lit (.bool false)], args := [d1, d2, d3] }
  | _ => none }
def DeedPossibleWrongFalsely : Prop := deedPossibleRow.holds Tryz.pinned (OpenSpec.ofChange deedPossibleWrong)

/-- 'couchantlaw02.DeedTouches': WHATEVER THE INPUT: true; the input reads as it did. -/
def deedTouchesSpec : ChangeSpec := { name := "deedTouches", fn := fun _ => fun
  | [d1, d2, d3, d4, d5] => { results := [.lit (.bool true)], args := [d1, d2, d3, d4, d5] }
  | _ => none }
def deedTouchesRow : OpenClaim := { program := "ytdikpjkdbgfoaaagreat", sum := "de46f440d5ac97d70132e9de04f0fc579be7c0b1d70184fd8f8627bb56ccad0b", func := "couchant/couchantlaw02.DeedTouches", spec := "deedTouches", unfollowed := true, recurses := true, apart := false }
def DeedTouchesSaid : Prop := deedTouchesRow.holds Tryz.pinned (OpenSpec.ofChange deedTouchesSpec)

/-- ITS FALSE NEIGHBOUR: 'it returns false'. Refute it at one input. -/
def deedTouchesWrong : ChangeSpec := { name := "deedTouches", fn := fun _ => fun
  | [d1, d2, d3, d4, d5] => { results := [.lit (.bool false)], args := [d1, d2, d3, d4, d5] }
  | _ => none }
def DeedTouchesWrongFalsely : Prop := deedTouchesRow.holds Tryz.pinned (OpenSpec.ofChange deedTouchesWrong)

/-- 'couchanttop.TopHeirs': WHATEVER THE INPUT: true; the input reads as it did. -/
def topHeirsSpec : ChangeSpec := { name := "topHeirs", fn := fun _ => fun
  | [d1, d2, d3, d4, d5] => { results := [.lit (.bool true)], args := [d1, d2, d3, d4, d5] }
  | _ => none }
def topHeirsRow : OpenClaim := { program := "ytdikpjkdbgfoaaagreat", sum := "de46f440d5ac97d70132e9de04f0fc579be7c0b1d70184fd8f8627bb56ccad0b", func := "couchant/couchanttop.TopHeirs", spec := "topHeirs", unfollowed := true, recurses := true, apart := false }
def TopHeirsSaid : Prop := topHeirsRow.holds Tryz.pinned (OpenSpec.ofChange topHeirsSpec)

/-- ITS FALSE NEIGHBOUR: 'it returns false'. Refute it at one input. -/
def topHeirsWrong : ChangeSpec := { name := "topHeirs", fn := fun _ => fun
  | [d1, d2, d3, d4, d5] => { results := [.lit (.bool false)], args := [d1, d2, d3, d4, d5] }
  | _ => none }
def TopHeirsWrongFalsely : Prop := topHeirsRow.holds Tryz.pinned (OpenSpec.ofChange topHeirsWrong)

/-- 'couchantlaw02.DeedReaches': WHATEVER THE INPUT: true; the input reads as it did. -/
def deedReachesSpec : ChangeSpec := { name := "deedReaches", fn := fun _ => fun
  | [d1, d2, d3, d4] => { results := [.lit (.bool true)], args := [d1, d2, d3, d4] }
  | _ => none }
def deedReachesRow : OpenClaim := { program := "ytdikpjkdbgfoaaagreat", sum := "de46f440d5ac97d70132e9de04f0fc579be7c0b1d70184fd8f8627bb56ccad0b", func := "couchant/couchantlaw02.DeedReaches", spec := "deedReaches", unfollowed := true, recurses := true, apart := false }
def DeedReachesSaid : Prop := deedReachesRow.holds Tryz.pinned (OpenSpec.ofChange deedReachesSpec)

/-- ITS FALSE NEIGHBOUR: 'it returns false'. Refute it at one input. -/
def deedReachesWrong : ChangeSpec := { name := "deedReaches", fn := fun _ => fun
  | [d1, d2, d3, d4] => { results := [.lit (.bool false)], args := [d1, d2, d3, d4] }
  | _ => none }
def DeedReachesWrongFalsely : Prop := deedReachesRow.holds Tryz.pinned (OpenSpec.ofChange deedReachesWrong)

/-- 'couchantlaw02.DeedChecks': WHATEVER THE INPUT: true; the input reads as it did. -/
def deedChecksSpec : ChangeSpec := { name := "deedChecks", fn := fun _ => fun
  | [d1, d2] => { results := [.lit (.bool true)], args := [d1, d2] }
  | _ => none }
def deedChecksRow : OpenClaim := { program := "ytdikpjkdbgfoaaagreat", sum := "de46f440d5ac97d70132e9de04f0fc579be7c0b1d70184fd8f8627bb56ccad0b", func := "couchant/couchantlaw02.DeedChecks", spec := "deedChecks", unfollowed := true, recurses := true, apart := false }
def DeedChecksSaid : Prop := deedChecksRow.holds Tryz.pinned (OpenSpec.ofChange deedChecksSpec)

/-- ITS FALSE NEIGHBOUR: 'it returns false'. Refute it at one input. -/
def deedChecksWrong : ChangeSpec := { name := "deedChecks", fn := fun _ => fun
  | [d1, d2] => { results := [.lit (.bool false)], args := [d1, d2] }
  | _ => none }
def DeedChecksWrongFalsely : Prop := deedChecksRow.holds Tryz.pinned (OpenSpec.ofChange deedChecksWrong)

/-- 'couchantlaw02.DeedOrders': WHATEVER THE INPUT: true; the input reads as it did. -/
def deedOrdersSpec : ChangeSpec := { name := "deedOrders", fn := fun _ => fun
  | [d1, d2] => { results := [.lit (.bool true)], args := [d1, d2] }
  | _ => none }
def deedOrdersRow : OpenClaim := { program := "ytdikpjkdbgfoaaagreat", sum := "de46f440d5ac97d70132e9de04f0fc579be7c0b1d70184fd8f8627bb56ccad0b", func := "couchant/couchantlaw02.DeedOrders", spec := "deedOrders", unfollowed := true, recurses := true, apart := false }
def DeedOrdersSaid : Prop := deedOrdersRow.holds Tryz.pinned (OpenSpec.ofChange deedOrdersSpec)

/-- ITS FALSE NEIGHBOUR: 'it returns false'. Refute it at one input. -/
def deedOrdersWrong : ChangeSpec := { name := "deedOrders", fn := fun _ => fun
  | [d1, d2] => { results := [.lit (.bool false)], args := [d1, d2] }
  | _ => none }
def DeedOrdersWrongFalsely : Prop := deedOrdersRow.holds Tryz.pinned (OpenSpec.ofChange deedOrdersWrong)

/-- 'couchantlaw02.DeedSums': WHATEVER THE INPUT: true; the input reads as it did. -/
def deedSumsSpec : ChangeSpec := { name := "deedSums", fn := fun _ => fun
  | [d1, d2, d3] => { results := [.lit (.bool true)], args := [d1, d2, d3] }
  | _ => none }
def deedSumsRow : OpenClaim := { program := "ytdikpjkdbgfoaaagreat", sum := "de46f440d5ac97d70132e9de04f0fc579be7c0b1d70184fd8f8627bb56ccad0b", func := "couchant/couchantlaw02.DeedSums", spec := "deedSums", unfollowed := true, recurses := true, apart := false }
def DeedSumsSaid : Prop := deedSumsRow.holds Tryz.pinned (OpenSpec.ofChange deedSumsSpec)

/-- ITS FALSE NEIGHBOUR: 'it returns false'. Refute it at one input. -/
def deedSumsWrong : ChangeSpec := { name := "deedSums", fn := fun _ => fun
  | [d1, d2, d3] => { results := [.lit (.bool false)], args := [d1, d2, d3] }
  | _ => none }
def DeedSumsWrongFalsely : Prop := deedSumsRow.holds Tryz.pinned (OpenSpec.ofChange deedSumsWrong)

/-- 'couchantlaw02.DeedParts': WHATEVER THE INPUT: true; the input reads as it did. -/
def deedPartsSpec : ChangeSpec := { name := "deedParts", fn := fun _ => fun
  | [d1, d2, d3] => { results := [.lit (.bool true)], args := [d1, d2, d3] }
  | _ => none }
def deedPartsRow : OpenClaim := { program := "ytdikpjkdbgfoaaagreat", sum := "de46f440d5ac97d70132e9de04f0fc579be7c0b1d70184fd8f8627bb56ccad0b", func := "couchant/couchantlaw02.DeedParts", spec := "deedParts", unfollowed := true, recurses := true, apart := false }
def DeedPartsSaid : Prop := deedPartsRow.holds Tryz.pinned (OpenSpec.ofChange deedPartsSpec)

/-- ITS FALSE NEIGHBOUR: 'it returns false'. Refute it at one input. -/
def deedPartsWrong : ChangeSpec := { name := "deedParts", fn := fun _ => fun
  | [d1, d2, d3] => { results := [.lit (.bool false)], args := [d1, d2, d3] }
  | _ => none }
def DeedPartsWrongFalsely : Prop := deedPartsRow.holds Tryz.pinned (OpenSpec.ofChange deedPartsWrong)

/-- 'couchantlaw02.DeedMemory': WHATEVER THE INPUT: true; the input reads as it did. -/
def deedMemorySpec : ChangeSpec := { name := "deedMemory", fn := fun _ => fun
  | [d1, d2, d3] => { results := [.lit (.bool true)], args := [d1, d2, d3] }
  | _ => none }
def deedMemoryRow : OpenClaim := { program := "ytdikpjkdbgfoaaagreat", sum := "de46f440d5ac97d70132e9de04f0fc579be7c0b1d70184fd8f8627bb56ccad0b", func := "couchant/couchantlaw02.DeedMemory", spec := "deedMemory", unfollowed := true, recurses := true, apart := false }
def DeedMemorySaid : Prop := deedMemoryRow.holds Tryz.pinned (OpenSpec.ofChange deedMemorySpec)

/-- ITS FALSE NEIGHBOUR: 'it returns false'. Refute it at one input. -/
def deedMemoryWrong : ChangeSpec := { name := "deedMemory", fn := fun _ => fun
  | [d1, d2, d3] => { results := [.lit (.bool false)], args := [d1, d2, d3] }
  | _ => none }
def DeedMemoryWrongFalsely : Prop := deedMemoryRow.holds Tryz.pinned (OpenSpec.ofChange deedMemoryWrong)

/-- 'couchantlaw02.DeedAccounts': WHATEVER THE INPUT: true; the input reads as it did. -/
def deedAccountsSpec : ChangeSpec := { name := "deedAccounts", fn := fun _ => fun
  | [d1, d2, d3, d4] => { results := [.lit (.bool true)], args := [d1, d2, d3, d4] }
  | _ => none }
def deedAccountsRow : OpenClaim := { program := "ytdikpjkdbgfoaaagreat", sum := "de46f440d5ac97d70132e9de04f0fc579be7c0b1d70184fd8f8627bb56ccad0b", func := "couchant/couchantlaw02.DeedAccounts", spec := "deedAccounts", unfollowed := true, recurses := true, apart := false }
def DeedAccountsSaid : Prop := deedAccountsRow.holds Tryz.pinned (OpenSpec.ofChange deedAccountsSpec)

/-- ITS FALSE NEIGHBOUR: 'it returns false'. Refute it at one input. -/
def deedAccountsWrong : ChangeSpec := { name := "deedAccounts", fn := fun _ => fun
  | [d1, d2, d3, d4] => { results := [.lit (.bool false)], args := [d1, d2, d3, d4] }
  | _ => none }
def DeedAccountsWrongFalsely : Prop := deedAccountsRow.holds Tryz.pinned (OpenSpec.ofChange deedAccountsWrong)

/-- 'couchantlaw02.DeedLists': WHATEVER THE INPUT: true; the input reads as it did. -/
def deedListsSpec : ChangeSpec := { name := "deedLists", fn := fun _ => fun
  | [d1, d2, d3] => { results := [.lit (.bool true)], args := [d1, d2, d3] }
  | _ => none }
def deedListsRow : OpenClaim := { program := "ytdikpjkdbgfoaaagreat", sum := "de46f440d5ac97d70132e9de04f0fc579be7c0b1d70184fd8f8627bb56ccad0b", func := "couchant/couchantlaw02.DeedLists", spec := "deedLists", unfollowed := true, recurses := true, apart := false }
def DeedListsSaid : Prop := deedListsRow.holds Tryz.pinned (OpenSpec.ofChange deedListsSpec)

/-- ITS FALSE NEIGHBOUR: 'it returns false'. Refute it at one input. -/
def deedListsWrong : ChangeSpec := { name := "deedLists", fn := fun _ => fun
  | [d1, d2, d3] => { results := [.lit (.bool false)], args := [d1, d2, d3] }
  | _ => none }
def DeedListsWrongFalsely : Prop := deedListsRow.holds Tryz.pinned (OpenSpec.ofChange deedListsWrong)

/-- 'couchantlaw02.DeedLate': WHATEVER THE INPUT: true; the input reads as it did. -/
def deedLateSpec : ChangeSpec := { name := "deedLate", fn := fun _ => fun
  | [d1, d2, d3] => { results := [.lit (.bool true)], args := [d1, d2, d3] }
  | _ => none }
def deedLateRow : OpenClaim := { program := "ytdikpjkdbgfoaaagreat", sum := "de46f440d5ac97d70132e9de04f0fc579be7c0b1d70184fd8f8627bb56ccad0b", func := "couchant/couchantlaw02.DeedLate", spec := "deedLate", unfollowed := true, recurses := true, apart := false }
def DeedLateSaid : Prop := deedLateRow.holds Tryz.pinned (OpenSpec.ofChange deedLateSpec)

/-- ITS FALSE NEIGHBOUR: 'it returns false'. Refute it at one input. -/
def deedLateWrong : ChangeSpec := { name := "deedLate", fn := fun _ => fun
  | [d1, d2, d3] => { results := [.lit (.bool false)], args := [d1, d2, d3] }
  | _ => none }
def DeedLateWrongFalsely : Prop := deedLateRow.holds Tryz.pinned (OpenSpec.ofChange deedLateWrong)

/-- 'couchantlaw02.DeedBound': WHATEVER THE INPUT: true; the input reads as it did. -/
def deedBoundSpec : ChangeSpec := { name := "deedBound", fn := fun _ => fun
  | [d1, d2, d3] => { results := [.lit (.bool true)], args := [d1, d2, d3] }
  | _ => none }
def deedBoundRow : OpenClaim := { program := "ytdikpjkdbgfoaaagreat", sum := "de46f440d5ac97d70132e9de04f0fc579be7c0b1d70184fd8f8627bb56ccad0b", func := "couchant/couchantlaw02.DeedBound", spec := "deedBound", unfollowed := true, recurses := true, apart := false }
def DeedBoundSaid : Prop := deedBoundRow.holds Tryz.pinned (OpenSpec.ofChange deedBoundSpec)

/-- ITS FALSE NEIGHBOUR: 'it returns false'. Refute it at one input. -/
def deedBoundWrong : ChangeSpec := { name := "deedBound", fn := fun _ => fun
  | [d1, d2, d3] => { results := [.lit (.bool false)], args := [d1, d2, d3] }
  | _ => none }
def DeedBoundWrongFalsely : Prop := deedBoundRow.holds Tryz.pinned (OpenSpec.ofChange deedBoundWrong)

/-- 'couchantlaw02.DeedDays': WHATEVER THE INPUT: true; the input reads as it did. -/
def deedDaysSpec : ChangeSpec := { name := "deedDays", fn := fun _ => fun
  | [d1, d2, d3, d4] => { results := [.lit (.bool true)], args := [d1, d2, d3, d4] }
  | _ => none }
def deedDaysRow : OpenClaim := { program := "ytdikpjkdbgfoaaagreat", sum := "de46f440d5ac97d70132e9de04f0fc579be7c0b1d70184fd8f8627bb56ccad0b", func := "couchant/couchantlaw02.DeedDays", spec := "deedDays", unfollowed := true, recurses := true, apart := false }
def DeedDaysSaid : Prop := deedDaysRow.holds Tryz.pinned (OpenSpec.ofChange deedDaysSpec)

/-- ITS FALSE NEIGHBOUR: 'it returns false'. Refute it at one input. -/
def deedDaysWrong : ChangeSpec := { name := "deedDays", fn := fun _ => fun
  | [d1, d2, d3, d4] => { results := [.lit (.bool false)], args := [d1, d2, d3, d4] }
  | _ => none }
def DeedDaysWrongFalsely : Prop := deedDaysRow.holds Tryz.pinned (OpenSpec.ofChange deedDaysWrong)

/-- 'couchantlaw02.DeedRests': WHATEVER THE INPUT: true; the input reads as it did. -/
def deedRestsSpec : ChangeSpec := { name := "deedRests", fn := fun _ => fun
  | [d1, d2, d3, d4] => { results := [.lit (.bool true)], args := [d1, d2, d3, d4] }
  | _ => none }
def deedRestsRow : OpenClaim := { program := "ytdikpjkdbgfoaaagreat", sum := "de46f440d5ac97d70132e9de04f0fc579be7c0b1d70184fd8f8627bb56ccad0b", func := "couchant/couchantlaw02.DeedRests", spec := "deedRests", unfollowed := true, recurses := true, apart := false }
def DeedRestsSaid : Prop := deedRestsRow.holds Tryz.pinned (OpenSpec.ofChange deedRestsSpec)

/-- ITS FALSE NEIGHBOUR: 'it returns false'. Refute it at one input. -/
def deedRestsWrong : ChangeSpec := { name := "deedRests", fn := fun _ => fun
  | [d1, d2, d3, d4] => { results := [.lit (.bool false)], args := [d1, d2, d3, d4] }
  | _ => none }
def DeedRestsWrongFalsely : Prop := deedRestsRow.holds Tryz.pinned (OpenSpec.ofChange deedRestsWrong)

/-- 'couchantlaw02.DeedLineages': WHATEVER THE INPUT: true; the input reads as it did. -/
def deedLineagesSpec : ChangeSpec := { name := "deedLineages", fn := fun _ => fun
  | [d1, d2, d3, d4, d5] => { results := [.lit (.bool true)], args := [d1, d2, d3, d4, d5] }
  | _ => none }
def deedLineagesRow : OpenClaim := { program := "ytdikpjkdbgfoaaagreat", sum := "de46f440d5ac97d70132e9de04f0fc579be7c0b1d70184fd8f8627bb56ccad0b", func := "couchant/couchantlaw02.DeedLineages", spec := "deedLineages", unfollowed := true, recurses := true, apart := false }
def DeedLineagesSaid : Prop := deedLineagesRow.holds Tryz.pinned (OpenSpec.ofChange deedLineagesSpec)

/-- ITS FALSE NEIGHBOUR: 'it returns false'. Refute it at one input. -/
def deedLineagesWrong : ChangeSpec := { name := "deedLineages", fn := fun _ => fun
  | [d1, d2, d3, d4, d5] => { results := [.lit (.bool false)], args := [d1, d2, d3, d4, d5] }
  | _ => none }
def DeedLineagesWrongFalsely : Prop := deedLineagesRow.holds Tryz.pinned (OpenSpec.ofChange deedLineagesWrong)

/-- 'couchanttop.TopStints': WHATEVER THE INPUT: true; the input reads as it did. -/
def topStintsSpec : ChangeSpec := { name := "topStints", fn := fun _ => fun
  | [d1, d2, d3, d4, d5] => { results := [.lit (.bool true)], args := [d1, d2, d3, d4, d5] }
  | _ => none }
def topStintsRow : OpenClaim := { program := "ytdikpjkdbgfoaaagreat", sum := "de46f440d5ac97d70132e9de04f0fc579be7c0b1d70184fd8f8627bb56ccad0b", func := "couchant/couchanttop.TopStints", spec := "topStints", unfollowed := true, recurses := true, apart := false }
def TopStintsSaid : Prop := topStintsRow.holds Tryz.pinned (OpenSpec.ofChange topStintsSpec)

/-- ITS FALSE NEIGHBOUR: 'it returns false'. Refute it at one input. -/
def topStintsWrong : ChangeSpec := { name := "topStints", fn := fun _ => fun
  | [d1, d2, d3, d4, d5] => { results := [.lit (.bool false)], args := [d1, d2, d3, d4, d5] }
  | _ => none }
def TopStintsWrongFalsely : Prop := topStintsRow.holds Tryz.pinned (OpenSpec.ofChange topStintsWrong)

/- THE SECOND FORM. 'bulk': how many values and letters a reading holds, each counted each time it is reached (what is shared counts as often as it is met; a slice's spare places count too). A statement '..UptoSaid' is the law's where the arguments, and the package variables that the reading takes, are together of bulk at most 1048576: NARROWER than '..Said'. Prove '..Said' where nothing that the law and all that it calls make is longer than what came in: it says more and counts as full. Else prove '..UptoSaid'. A law counts once. -/
mutual
def uptoBulk {H : Type} : DataW H → Nat
  | .lit (.string bytes) => bytes.length + 1
  | .lit _ => 1
  | .nil => 1
  | .ptr d => uptoBulk d + 1
  | .slice elems spare => uptoBulkAll elems + uptoBulkAll spare + 1
  | .agg parts => uptoBulkAll parts + 1
  | .iface _ d => uptoBulk d + 1
  | .map entries => uptoBulkEntries entries + 1
  | .held _ => 1
def uptoBulkAll {H : Type} : List (DataW H) → Nat
  | [] => 0
  | d :: r => uptoBulk d + uptoBulkAll r
def uptoBulkEntries {H : Type} : List (Lit × DataW H) → Nat
  | [] => 0
  | x :: r => uptoBulkEntry x + uptoBulkEntries r
def uptoBulkEntry {H : Type} : Lit × DataW H → Nat
  | (.string bytes, d) => bytes.length + uptoBulk d + 1
  | (_, d) => uptoBulk d + 1
 end
def uptoSmall : (H : Type) → List (DataW H) → Bool := fun _ ds => decide (uptoBulkAll ds ≤ 1048576)
def OpenSpec.upto (s : _root_.Go.ChangeSpec) : _root_.Go.OpenSpec := { _root_.Go.OpenSpec.ofChange s with cond := some uptoSmall }

/-- 'couchantlaw02.DeedMost', WHERE WHAT IT READS IS OF BULK AT MOST 1048576: true; the input reads as it did. -/
def deedMostUptoRow : OpenClaim := { program := "ytdikpjkdbgfoaaagreat", sum := "de46f440d5ac97d70132e9de04f0fc579be7c0b1d70184fd8f8627bb56ccad0b", func := "couchant/couchantlaw02.DeedMost", spec := "deedMost", unfollowed := true, recurses := true, apart := false, narrowed := true }
def DeedMostUptoSaid : Prop := deedMostUptoRow.holds Tryz.pinned (OpenSpec.upto deedMostSpec)

/-- 'couchantlaw02.DeedPossible', WHERE WHAT IT READS IS OF BULK AT MOST 1048576: true; the input reads as it did. -/
def deedPossibleUptoRow : OpenClaim := { program := "ytdikpjkdbgfoaaagreat", sum := "de46f440d5ac97d70132e9de04f0fc579be7c0b1d70184fd8f8627bb56ccad0b", func := "couchant/couchantlaw02.DeedPossible", spec := "deedPossible", unfollowed := true, recurses := true, apart := false, narrowed := true }
def DeedPossibleUptoSaid : Prop := deedPossibleUptoRow.holds Tryz.pinned (OpenSpec.upto deedPossibleSpec)

/-- 'couchantlaw02.DeedTouches', WHERE WHAT IT READS IS OF BULK AT MOST 1048576: true; the input reads as it did. -/
def deedTouchesUptoRow : OpenClaim := { program := "ytdikpjkdbgfoaaagreat", sum := "de46f440d5ac97d70132e9de04f0fc579be7c0b1d70184fd8f8627bb56ccad0b", func := "couchant/couchantlaw02.DeedTouches", spec := "deedTouches", unfollowed := true, recurses := true, apart := false, narrowed := true }
def DeedTouchesUptoSaid : Prop := deedTouchesUptoRow.holds Tryz.pinned (OpenSpec.upto deedTouchesSpec)

/-- 'couchanttop.TopHeirs', WHERE WHAT IT READS IS OF BULK AT MOST 1048576: true; the input reads as it did. -/
def topHeirsUptoRow : OpenClaim := { program := "ytdikpjkdbgfoaaagreat", sum := "de46f440d5ac97d70132e9de04f0fc579be7c0b1d70184fd8f8627bb56ccad0b", func := "couchant/couchanttop.TopHeirs", spec := "topHeirs", unfollowed := true, recurses := true, apart := false, narrowed := true }
def TopHeirsUptoSaid : Prop := topHeirsUptoRow.holds Tryz.pinned (OpenSpec.upto topHeirsSpec)

/-- 'couchantlaw02.DeedReaches', WHERE WHAT IT READS IS OF BULK AT MOST 1048576: true; the input reads as it did. -/
def deedReachesUptoRow : OpenClaim := { program := "ytdikpjkdbgfoaaagreat", sum := "de46f440d5ac97d70132e9de04f0fc579be7c0b1d70184fd8f8627bb56ccad0b", func := "couchant/couchantlaw02.DeedReaches", spec := "deedReaches", unfollowed := true, recurses := true, apart := false, narrowed := true }
def DeedReachesUptoSaid : Prop := deedReachesUptoRow.holds Tryz.pinned (OpenSpec.upto deedReachesSpec)

/-- 'couchantlaw02.DeedChecks', WHERE WHAT IT READS IS OF BULK AT MOST 1048576: true; the input reads as it did. -/
def deedChecksUptoRow : OpenClaim := { program := "ytdikpjkdbgfoaaagreat", sum := "de46f440d5ac97d70132e9de04f0fc579be7c0b1d70184fd8f8627bb56ccad0b", func := "couchant/couchantlaw02.DeedChecks", spec := "deedChecks", unfollowed := true, recurses := true, apart := false, narrowed := true }
def DeedChecksUptoSaid : Prop := deedChecksUptoRow.holds Tryz.pinned (OpenSpec.upto deedChecksSpec)

/-- 'couchantlaw02.DeedOrders', WHERE WHAT IT READS IS OF BULK AT MOST 1048576: true; the input reads as it did. -/
def deedOrdersUptoRow : OpenClaim := { program := "ytdikpjkdbgfoaaagreat", sum := "de46f440d5ac97d70132e9de04f0fc579be7c0b1d70184fd8f8627bb56ccad0b", func := "couchant/couchantlaw02.DeedOrders", spec := "deedOrders", unfollowed := true, recurses := true, apart := false, narrowed := true }
def DeedOrdersUptoSaid : Prop := deedOrdersUptoRow.holds Tryz.pinned (OpenSpec.upto deedOrdersSpec)

/-- 'couchantlaw02.DeedSums', WHERE WHAT IT READS IS OF BULK AT MOST 1048576: true; the input reads as it did. -/
def deedSumsUptoRow : OpenClaim := { program := "ytdikpjkdbgfoaaagreat", sum := "de46f440d5ac97d70132e9de04f0fc579be7c0b1d70184fd8f8627bb56ccad0b", func := "couchant/couchantlaw02.DeedSums", spec := "deedSums", unfollowed := true, recurses := true, apart := false, narrowed := true }
def DeedSumsUptoSaid : Prop := deedSumsUptoRow.holds Tryz.pinned (OpenSpec.upto deedSumsSpec)

/-- 'couchantlaw02.DeedParts', WHERE WHAT IT READS IS OF BULK AT MOST 1048576: true; the input reads as it did. -/
def deedPartsUptoRow : OpenClaim := { program := "ytdikpjkdbgfoaaagreat", sum := "de46f440d5ac97d70132e9de04f0fc579be7c0b1d70184fd8f8627bb56ccad0b", func := "couchant/couchantlaw02.DeedParts", spec := "deedParts", unfollowed := true, recurses := true, apart := false, narrowed := true }
def DeedPartsUptoSaid : Prop := deedPartsUptoRow.holds Tryz.pinned (OpenSpec.upto deedPartsSpec)

/-- 'couchantlaw02.DeedMemory', WHERE WHAT IT READS IS OF BULK AT MOST 1048576: true; the input reads as it did. -/
def deedMemoryUptoRow : OpenClaim := { program := "ytdikpjkdbgfoaaagreat", sum := "de46f440d5ac97d70132e9de04f0fc579be7c0b1d70184fd8f8627bb56ccad0b", func := "couchant/couchantlaw02.DeedMemory", spec := "deedMemory", unfollowed := true, recurses := true, apart := false, narrowed := true }
def DeedMemoryUptoSaid : Prop := deedMemoryUptoRow.holds Tryz.pinned (OpenSpec.upto deedMemorySpec)

/-- 'couchantlaw02.DeedAccounts', WHERE WHAT IT READS IS OF BULK AT MOST 1048576: true; the input reads as it did. -/
def deedAccountsUptoRow : OpenClaim := { program := "ytdikpjkdbgfoaaagreat", sum := "de46f440d5ac97d70132e9de04f0fc579be7c0b1d70184fd8f8627bb56ccad0b", func := "couchant/couchantlaw02.DeedAccounts", spec := "deedAccounts", unfollowed := true, recurses := true, apart := false, narrowed := true }
def DeedAccountsUptoSaid : Prop := deedAccountsUptoRow.holds Tryz.pinned (OpenSpec.upto deedAccountsSpec)

/-- 'couchantlaw02.DeedLists', WHERE WHAT IT READS IS OF BULK AT MOST 1048576: true; the input reads as it did. -/
def deedListsUptoRow : OpenClaim := { program := "ytdikpjkdbgfoaaagreat", sum := "de46f440d5ac97d70132e9de04f0fc579be7c0b1d70184fd8f8627bb56ccad0b", func := "couchant/couchantlaw02.DeedLists", spec := "deedLists", unfollowed := true, recurses := true, apart := false, narrowed := true }
def DeedListsUptoSaid : Prop := deedListsUptoRow.holds Tryz.pinned (OpenSpec.upto deedListsSpec)

/-- 'couchantlaw02.DeedLate', WHERE WHAT IT READS IS OF BULK AT MOST 1048576: true; the input reads as it did. -/
def deedLateUptoRow : OpenClaim := { program := "ytdikpjkdbgfoaaagreat", sum := "de46f440d5ac97d70132e9de04f0fc579be7c0b1d70184fd8f8627bb56ccad0b", func := "couchant/couchantlaw02.DeedLate", spec := "deedLate", unfollowed := true, recurses := true, apart := false, narrowed := true }
def DeedLateUptoSaid : Prop := deedLateUptoRow.holds Tryz.pinned (OpenSpec.upto deedLateSpec)

/-- 'couchantlaw02.DeedBound', WHERE WHAT IT READS IS OF BULK AT MOST 1048576: true; the input reads as it did. -/
def deedBoundUptoRow : OpenClaim := { program := "ytdikpjkdbgfoaaagreat", sum := "de46f440d5ac97d70132e9de04f0fc579be7c0b1d70184fd8f8627bb56ccad0b", func := "couchant/couchantlaw02.DeedBound", spec := "deedBound", unfollowed := true, recurses := true, apart := false, narrowed := true }
def DeedBoundUptoSaid : Prop := deedBoundUptoRow.holds Tryz.pinned (OpenSpec.upto deedBoundSpec)

/-- 'couchantlaw02.DeedDays', WHERE WHAT IT READS IS OF BULK AT MOST 1048576: true; the input reads as it did. -/
def deedDaysUptoRow : OpenClaim := { program := "ytdikpjkdbgfoaaagreat", sum := "de46f440d5ac97d70132e9de04f0fc579be7c0b1d70184fd8f8627bb56ccad0b", func := "couchant/couchantlaw02.DeedDays", spec := "deedDays", unfollowed := true, recurses := true, apart := false, narrowed := true }
def DeedDaysUptoSaid : Prop := deedDaysUptoRow.holds Tryz.pinned (OpenSpec.upto deedDaysSpec)

/-- 'couchantlaw02.DeedRests', WHERE WHAT IT READS IS OF BULK AT MOST 1048576: true; the input reads as it did. -/
def deedRestsUptoRow : OpenClaim := { program := "ytdikpjkdbgfoaaagreat", sum := "de46f440d5ac97d70132e9de04f0fc579be7c0b1d70184fd8f8627bb56ccad0b", func := "couchant/couchantlaw02.DeedRests", spec := "deedRests", unfollowed := true, recurses := true, apart := false, narrowed := true }
def DeedRestsUptoSaid : Prop := deedRestsUptoRow.holds Tryz.pinned (OpenSpec.upto deedRestsSpec)

/-- 'couchantlaw02.DeedLineages', WHERE WHAT IT READS IS OF BULK AT MOST 1048576: true; the input reads as it did. -/
def deedLineagesUptoRow : OpenClaim := { program := "ytdikpjkdbgfoaaagreat", sum := "de46f440d5ac97d70132e9de04f0fc579be7c0b1d70184fd8f8627bb56ccad0b", func := "couchant/couchantlaw02.DeedLineages", spec := "deedLineages", unfollowed := true, recurses := true, apart := false, narrowed := true }
def DeedLineagesUptoSaid : Prop := deedLineagesUptoRow.holds Tryz.pinned (OpenSpec.upto deedLineagesSpec)

/-- 'couchanttop.TopStints', WHERE WHAT IT READS IS OF BULK AT MOST 1048576: true; the input reads as it did. -/
def topStintsUptoRow : OpenClaim := { program := "ytdikpjkdbgfoaaagreat", sum := "de46f440d5ac97d70132e9de04f0fc579be7c0b1d70184fd8f8627bb56ccad0b", func := "couchant/couchanttop.TopStints", spec := "topStints", unfollowed := true, recurses := true, apart := false, narrowed := true }
def TopStintsUptoSaid : Prop := topStintsUptoRow.holds Tryz.pinned (OpenSpec.upto topStintsSpec)

end Rows
end Go.Proofs.YtdikpjkdbgfoaaaGreat
