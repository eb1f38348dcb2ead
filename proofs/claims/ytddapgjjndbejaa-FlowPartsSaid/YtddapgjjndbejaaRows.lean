/-
  No cell of these rows narrows 'for every input' (looked for: loops, veiled, ifaces, maps, wideKeys, modest, calm, conditions, laid).
  DERIVED. THE GIVEN ROWS OF THIS SEAT. 15 by the template 'for every input the law returns true; each argument reads behind the call as it read before'; 0 by the template 'total and deterministic' (their statements: YtddapgjjndbejaaTotals.lean).
  GIVEN WITH THE SEED: the statements are not yours to turn. If you find one false, say at which input.
  Laid BY PROGRAM, IN A SANDBOX (cutbox-rows.mjs): the forced cells as the released guide's own fill.sh prints them over the translation 0abe936fbf9118c4… (all of the seat's roots in one cut). By AI agents, Wed Nov 11 2026. No macro, syntax, notation, axiom, sorry.
-/
import Derived.Test.YtddapgjjndbejaaChecked
import GoSem.Claim
import GoSem.ClaimJoined
import GoSem.ClaimMapViews
import Derived.JoinedTies
import Derived.KernelRfl
namespace Go.Proofs.Ytddapgjjndbejaa
/- THE CELL 'sum', in the pinned program and in every row, IS THE sha256 OF THE DUMP (.gsa) THAT YtddapgjjndbejaaProg.lean LOADS. Nothing in Lean hashes anything: it is a label: what it is worth is what the hold of that sum in a sandbox is worth. -/
noncomputable def Try.pinned : Pinned := { name := "ytddapgjjndbejaa", sum := "0abe936fbf9118c4a8a7cc1d72fa72180ecad86916f7f4d8fdad68326a4a66d6", checked := Try.checked }
namespace Rows
def none {H : Type} : Left H := { results := [], args := [] }

/-- 'couchantlaw06.FlowNarrows': WHATEVER THE INPUT: true; the input reads as it did. -/
def flowNarrowsSpec : ChangeSpec := { name := "flowNarrows", fn := fun _ => fun
  | [d1, d2, d3, d4, d5, d6, d7] => { results := [.lit (.bool true)], args := [d1, d2, d3, d4, d5, d6, d7] }
  | _ => none }
def flowNarrowsRow : OpenClaim := { program := "ytddapgjjndbejaa", sum := "0abe936fbf9118c4a8a7cc1d72fa72180ecad86916f7f4d8fdad68326a4a66d6", func := "couchant/couchantlaw06.FlowNarrows", spec := "flowNarrows", unfollowed := true, recurses := true, apart := false }
def FlowNarrowsSaid : Prop := flowNarrowsRow.holds Try.pinned (OpenSpec.ofChange flowNarrowsSpec)

/-- ITS FALSE NEIGHBOUR: 'it returns false'. Refute it at one input. -/
def flowNarrowsWrong : ChangeSpec := { name := "flowNarrows", fn := fun _ => fun
  | [d1, d2, d3, d4, d5, d6, d7] => { results := [.lit (.bool false)], args := [d1, d2, d3, d4, d5, d6, d7] }
  | _ => none }
def FlowNarrowsWrongFalsely : Prop := flowNarrowsRow.holds Try.pinned (OpenSpec.ofChange flowNarrowsWrong)

/-- 'couchantlaw06.FlowMemory': WHATEVER THE INPUT: true; the input reads as it did. -/
def flowMemorySpec : ChangeSpec := { name := "flowMemory", fn := fun _ => fun
  | [d1, d2, d3] => { results := [.lit (.bool true)], args := [d1, d2, d3] }
  | _ => none }
def flowMemoryRow : OpenClaim := { program := "ytddapgjjndbejaa", sum := "0abe936fbf9118c4a8a7cc1d72fa72180ecad86916f7f4d8fdad68326a4a66d6", func := "couchant/couchantlaw06.FlowMemory", spec := "flowMemory", unfollowed := true, recurses := true, apart := false }
def FlowMemorySaid : Prop := flowMemoryRow.holds Try.pinned (OpenSpec.ofChange flowMemorySpec)

/-- ITS FALSE NEIGHBOUR: 'it returns false'. Refute it at one input. -/
def flowMemoryWrong : ChangeSpec := { name := "flowMemory", fn := fun _ => fun
  | [d1, d2, d3] => { results := [.lit (.bool false)], args := [d1, d2, d3] }
  | _ => none }
def FlowMemoryWrongFalsely : Prop := flowMemoryRow.holds Try.pinned (OpenSpec.ofChange flowMemoryWrong)

/-- 'couchantlaw06.FlowObstacles': WHATEVER THE INPUT: true; the input reads as it did. -/
def flowObstaclesSpec : ChangeSpec := { name := "flowObstacles", fn := fun _ => fun
  | [d1, d2] => { results := [.lit (.bool true)], args := [d1, d2] }
  | _ => none }
def flowObstaclesRow : OpenClaim := { program := "ytddapgjjndbejaa", sum := "0abe936fbf9118c4a8a7cc1d72fa72180ecad86916f7f4d8fdad68326a4a66d6", func := "couchant/couchantlaw06.FlowObstacles", spec := "flowObstacles", unfollowed := true, recurses := true, apart := false }
def FlowObstaclesSaid : Prop := flowObstaclesRow.holds Try.pinned (OpenSpec.ofChange flowObstaclesSpec)

/-- ITS FALSE NEIGHBOUR: 'it returns false'. Refute it at one input. -/
def flowObstaclesWrong : ChangeSpec := { name := "flowObstacles", fn := fun _ => fun
  | [d1, d2] => { results := [.lit (.bool false)], args := [d1, d2] }
  | _ => none }
def FlowObstaclesWrongFalsely : Prop := flowObstaclesRow.holds Try.pinned (OpenSpec.ofChange flowObstaclesWrong)

/-- 'couchantlaw06.FlowChecks': WHATEVER THE INPUT: true; the input reads as it did. -/
def flowChecksSpec : ChangeSpec := { name := "flowChecks", fn := fun _ => fun
  | [d1, d2, d3, d4] => { results := [.lit (.bool true)], args := [d1, d2, d3, d4] }
  | _ => none }
def flowChecksRow : OpenClaim := { program := "ytddapgjjndbejaa", sum := "0abe936fbf9118c4a8a7cc1d72fa72180ecad86916f7f4d8fdad68326a4a66d6", func := "couchant/couchantlaw06.FlowChecks", spec := "flowChecks", unfollowed := true, recurses := true, apart := false }
def FlowChecksSaid : Prop := flowChecksRow.holds Try.pinned (OpenSpec.ofChange flowChecksSpec)

/-- ITS FALSE NEIGHBOUR: 'it returns false'. Refute it at one input. -/
def flowChecksWrong : ChangeSpec := { name := "flowChecks", fn := fun _ => fun
  | [d1, d2, d3, d4] => { results := [.lit (.bool false)], args := [d1, d2, d3, d4] }
  | _ => none }
def FlowChecksWrongFalsely : Prop := flowChecksRow.holds Try.pinned (OpenSpec.ofChange flowChecksWrong)

/-- 'couchantlaw06.FlowOrder': WHATEVER THE INPUT: true; the input reads as it did. -/
def flowOrderSpec : ChangeSpec := { name := "flowOrder", fn := fun _ => fun
  | [d1, d2, d3, d4] => { results := [.lit (.bool true)], args := [d1, d2, d3, d4] }
  | _ => none }
def flowOrderRow : OpenClaim := { program := "ytddapgjjndbejaa", sum := "0abe936fbf9118c4a8a7cc1d72fa72180ecad86916f7f4d8fdad68326a4a66d6", func := "couchant/couchantlaw06.FlowOrder", spec := "flowOrder", unfollowed := true, recurses := true, apart := false }
def FlowOrderSaid : Prop := flowOrderRow.holds Try.pinned (OpenSpec.ofChange flowOrderSpec)

/-- ITS FALSE NEIGHBOUR: 'it returns false'. Refute it at one input. -/
def flowOrderWrong : ChangeSpec := { name := "flowOrder", fn := fun _ => fun
  | [d1, d2, d3, d4] => { results := [.lit (.bool false)], args := [d1, d2, d3, d4] }
  | _ => none }
def FlowOrderWrongFalsely : Prop := flowOrderRow.holds Try.pinned (OpenSpec.ofChange flowOrderWrong)

/-- 'couchantlaw06.FlowEither': WHATEVER THE INPUT: true; the input reads as it did. -/
def flowEitherSpec : ChangeSpec := { name := "flowEither", fn := fun _ => fun
  | [d1, d2, d3] => { results := [.lit (.bool true)], args := [d1, d2, d3] }
  | _ => none }
def flowEitherRow : OpenClaim := { program := "ytddapgjjndbejaa", sum := "0abe936fbf9118c4a8a7cc1d72fa72180ecad86916f7f4d8fdad68326a4a66d6", func := "couchant/couchantlaw06.FlowEither", spec := "flowEither", unfollowed := true, recurses := true, apart := false }
def FlowEitherSaid : Prop := flowEitherRow.holds Try.pinned (OpenSpec.ofChange flowEitherSpec)

/-- ITS FALSE NEIGHBOUR: 'it returns false'. Refute it at one input. -/
def flowEitherWrong : ChangeSpec := { name := "flowEither", fn := fun _ => fun
  | [d1, d2, d3] => { results := [.lit (.bool false)], args := [d1, d2, d3] }
  | _ => none }
def FlowEitherWrongFalsely : Prop := flowEitherRow.holds Try.pinned (OpenSpec.ofChange flowEitherWrong)

/-- 'couchantlaw06.FlowLifted': WHATEVER THE INPUT: true; the input reads as it did. -/
def flowLiftedSpec : ChangeSpec := { name := "flowLifted", fn := fun _ => fun
  | [d1, d2, d3] => { results := [.lit (.bool true)], args := [d1, d2, d3] }
  | _ => none }
def flowLiftedRow : OpenClaim := { program := "ytddapgjjndbejaa", sum := "0abe936fbf9118c4a8a7cc1d72fa72180ecad86916f7f4d8fdad68326a4a66d6", func := "couchant/couchantlaw06.FlowLifted", spec := "flowLifted", unfollowed := true, recurses := true, apart := false }
def FlowLiftedSaid : Prop := flowLiftedRow.holds Try.pinned (OpenSpec.ofChange flowLiftedSpec)

/-- ITS FALSE NEIGHBOUR: 'it returns false'. Refute it at one input. -/
def flowLiftedWrong : ChangeSpec := { name := "flowLifted", fn := fun _ => fun
  | [d1, d2, d3] => { results := [.lit (.bool false)], args := [d1, d2, d3] }
  | _ => none }
def FlowLiftedWrongFalsely : Prop := flowLiftedRow.holds Try.pinned (OpenSpec.ofChange flowLiftedWrong)

/-- 'couchantlaw06.FlowBest': WHATEVER THE INPUT: true; the input reads as it did. -/
def flowBestSpec : ChangeSpec := { name := "flowBest", fn := fun _ => fun
  | [d1, d2] => { results := [.lit (.bool true)], args := [d1, d2] }
  | _ => none }
def flowBestRow : OpenClaim := { program := "ytddapgjjndbejaa", sum := "0abe936fbf9118c4a8a7cc1d72fa72180ecad86916f7f4d8fdad68326a4a66d6", func := "couchant/couchantlaw06.FlowBest", spec := "flowBest", unfollowed := true, recurses := true, apart := false }
def FlowBestSaid : Prop := flowBestRow.holds Try.pinned (OpenSpec.ofChange flowBestSpec)

/-- ITS FALSE NEIGHBOUR: 'it returns false'. Refute it at one input. -/
def flowBestWrong : ChangeSpec := { name := "flowBest", fn := fun _ => fun
  | [d1, d2] => { results := [.lit (.bool false)], args := [d1, d2] }
  | _ => none }
def FlowBestWrongFalsely : Prop := flowBestRow.holds Try.pinned (OpenSpec.ofChange flowBestWrong)

/-- 'couchantlaw06.FlowProves': WHATEVER THE INPUT: true; the input reads as it did. -/
def flowProvesSpec : ChangeSpec := { name := "flowProves", fn := fun _ => fun
  | [d1, d2, d3, d4] => { results := [.lit (.bool true)], args := [d1, d2, d3, d4] }
  | _ => none }
def flowProvesRow : OpenClaim := { program := "ytddapgjjndbejaa", sum := "0abe936fbf9118c4a8a7cc1d72fa72180ecad86916f7f4d8fdad68326a4a66d6", func := "couchant/couchantlaw06.FlowProves", spec := "flowProves", unfollowed := true, recurses := true, apart := false }
def FlowProvesSaid : Prop := flowProvesRow.holds Try.pinned (OpenSpec.ofChange flowProvesSpec)

/-- ITS FALSE NEIGHBOUR: 'it returns false'. Refute it at one input. -/
def flowProvesWrong : ChangeSpec := { name := "flowProves", fn := fun _ => fun
  | [d1, d2, d3, d4] => { results := [.lit (.bool false)], args := [d1, d2, d3, d4] }
  | _ => none }
def FlowProvesWrongFalsely : Prop := flowProvesRow.holds Try.pinned (OpenSpec.ofChange flowProvesWrong)

/-- 'couchantlaw06.FlowNets': WHATEVER THE INPUT: true; the input reads as it did. -/
def flowNetsSpec : ChangeSpec := { name := "flowNets", fn := fun _ => fun
  | [d1, d2, d3, d4, d5, d6] => { results := [.lit (.bool true)], args := [d1, d2, d3, d4, d5, d6] }
  | _ => none }
def flowNetsRow : OpenClaim := { program := "ytddapgjjndbejaa", sum := "0abe936fbf9118c4a8a7cc1d72fa72180ecad86916f7f4d8fdad68326a4a66d6", func := "couchant/couchantlaw06.FlowNets", spec := "flowNets", unfollowed := true, recurses := true, apart := false }
def FlowNetsSaid : Prop := flowNetsRow.holds Try.pinned (OpenSpec.ofChange flowNetsSpec)

/-- ITS FALSE NEIGHBOUR: 'it returns false'. Refute it at one input. -/
def flowNetsWrong : ChangeSpec := { name := "flowNets", fn := fun _ => fun
  | [d1, d2, d3, d4, d5, d6] => { results := [.lit (.bool false)], args := [d1, d2, d3, d4, d5, d6] }
  | _ => none }
def FlowNetsWrongFalsely : Prop := flowNetsRow.holds Try.pinned (OpenSpec.ofChange flowNetsWrong)

/-- 'couchantlaw06.FlowReaches': WHATEVER THE INPUT: true; the input reads as it did. -/
def flowReachesSpec : ChangeSpec := { name := "flowReaches", fn := fun _ => fun
  | [d1, d2, d3] => { results := [.lit (.bool true)], args := [d1, d2, d3] }
  | _ => none }
def flowReachesRow : OpenClaim := { program := "ytddapgjjndbejaa", sum := "0abe936fbf9118c4a8a7cc1d72fa72180ecad86916f7f4d8fdad68326a4a66d6", func := "couchant/couchantlaw06.FlowReaches", spec := "flowReaches", unfollowed := true, recurses := true, apart := false }
def FlowReachesSaid : Prop := flowReachesRow.holds Try.pinned (OpenSpec.ofChange flowReachesSpec)

/-- ITS FALSE NEIGHBOUR: 'it returns false'. Refute it at one input. -/
def flowReachesWrong : ChangeSpec := { name := "flowReaches", fn := fun _ => fun
  | [d1, d2, d3] => { results := [.lit (.bool false)], args := [d1, d2, d3] }
  | _ => none }
def FlowReachesWrongFalsely : Prop := flowReachesRow.holds Try.pinned (OpenSpec.ofChange flowReachesWrong)

/-- 'couchantlaw06.FlowSharp': WHATEVER THE INPUT: true; the input reads as it did. -/
def flowSharpSpec : ChangeSpec := { name := "flowSharp", fn := fun _ => fun
  | [d1, d2, d3] => { results := [.lit (.bool true)], args := [d1, d2, d3] }
  | _ => none }
def flowSharpRow : OpenClaim := { program := "ytddapgjjndbejaa", sum := "0abe936fbf9118c4a8a7cc1d72fa72180ecad86916f7f4d8fdad68326a4a66d6", func := "couchant/couchantlaw06.FlowSharp", spec := "flowSharp", unfollowed := true, recurses := true, apart := false }
def FlowSharpSaid : Prop := flowSharpRow.holds Try.pinned (OpenSpec.ofChange flowSharpSpec)

/-- ITS FALSE NEIGHBOUR: 'it returns false'. Refute it at one input. -/
def flowSharpWrong : ChangeSpec := { name := "flowSharp", fn := fun _ => fun
  | [d1, d2, d3] => { results := [.lit (.bool false)], args := [d1, d2, d3] }
  | _ => none }
def FlowSharpWrongFalsely : Prop := flowSharpRow.holds Try.pinned (OpenSpec.ofChange flowSharpWrong)

/-- 'couchantlaw06.FlowCircles': WHATEVER THE INPUT: true; the input reads as it did. -/
def flowCirclesSpec : ChangeSpec := { name := "flowCircles", fn := fun _ => fun
  | [d1, d2] => { results := [.lit (.bool true)], args := [d1, d2] }
  | _ => none }
def flowCirclesRow : OpenClaim := { program := "ytddapgjjndbejaa", sum := "0abe936fbf9118c4a8a7cc1d72fa72180ecad86916f7f4d8fdad68326a4a66d6", func := "couchant/couchantlaw06.FlowCircles", spec := "flowCircles", unfollowed := true, recurses := true, apart := false }
def FlowCirclesSaid : Prop := flowCirclesRow.holds Try.pinned (OpenSpec.ofChange flowCirclesSpec)

/-- ITS FALSE NEIGHBOUR: 'it returns false'. Refute it at one input. -/
def flowCirclesWrong : ChangeSpec := { name := "flowCircles", fn := fun _ => fun
  | [d1, d2] => { results := [.lit (.bool false)], args := [d1, d2] }
  | _ => none }
def FlowCirclesWrongFalsely : Prop := flowCirclesRow.holds Try.pinned (OpenSpec.ofChange flowCirclesWrong)

/-- 'couchantlaw06.FlowParts': WHATEVER THE INPUT: true; the input reads as it did. -/
def flowPartsSpec : ChangeSpec := { name := "flowParts", fn := fun _ => fun
  | [d1, d2] => { results := [.lit (.bool true)], args := [d1, d2] }
  | _ => none }
def flowPartsRow : OpenClaim := { program := "ytddapgjjndbejaa", sum := "0abe936fbf9118c4a8a7cc1d72fa72180ecad86916f7f4d8fdad68326a4a66d6", func := "couchant/couchantlaw06.FlowParts", spec := "flowParts", unfollowed := true, recurses := true, apart := false }
def FlowPartsSaid : Prop := flowPartsRow.holds Try.pinned (OpenSpec.ofChange flowPartsSpec)

/-- ITS FALSE NEIGHBOUR: 'it returns false'. Refute it at one input. -/
def flowPartsWrong : ChangeSpec := { name := "flowParts", fn := fun _ => fun
  | [d1, d2] => { results := [.lit (.bool false)], args := [d1, d2] }
  | _ => none }
def FlowPartsWrongFalsely : Prop := flowPartsRow.holds Try.pinned (OpenSpec.ofChange flowPartsWrong)

/-- 'couchantlaw06.FlowFixed': WHATEVER THE INPUT: true; the input reads as it did. -/
def flowFixedSpec : ChangeSpec := { name := "flowFixed", fn := fun _ => fun
  | [d] => { results := [.lit (.bool true)], args := [d] }
  | _ => none }
def flowFixedRow : OpenClaim := { program := "ytddapgjjndbejaa", sum := "0abe936fbf9118c4a8a7cc1d72fa72180ecad86916f7f4d8fdad68326a4a66d6", func := "couchant/couchantlaw06.FlowFixed", spec := "flowFixed", unfollowed := true, recurses := true, apart := false }
def FlowFixedSaid : Prop := flowFixedRow.holds Try.pinned (OpenSpec.ofChange flowFixedSpec)

/-- ITS FALSE NEIGHBOUR: 'it returns false'. Refute it at one input. -/
def flowFixedWrong : ChangeSpec := { name := "flowFixed", fn := fun _ => fun
  | [d] => { results := [.lit (.bool false)], args := [d] }
  | _ => none }
def FlowFixedWrongFalsely : Prop := flowFixedRow.holds Try.pinned (OpenSpec.ofChange flowFixedWrong)

/- THE SECOND FORM. 'bulk': how many values and letters a reading holds, each counted each time it is reached (what is shared counts as often as it is met; a slice's spare places count too). A statement '..UptoSaid' is the law's where the arguments, and the package variables that the reading takes, are together of bulk at most 1048576: NARROWER than '..Said'. Prove '..Said' where nothing that the law and all that it calls make is longer than what came in: it says more and counts as full. Else prove '..UptoSaid'. A law counts once. -/
mutual
def uptoBulk {H : Type} : DataW H → Nat
  | .lit (.string bytes) => bytes.length + 1
  | .lit _ => 1
  | .nil => 1
  | .ptr d => uptoBulk d + 1
  | .slice elems spare => uptoBulkAll elems + uptoBulkAll spare + 1
  | .agg parts => uptoBulkAll parts + 1
  | .iface _ d => uptoBulk d + 1
  | .map entries => uptoBulkEntries entries + 1
  | .held _ => 1
def uptoBulkAll {H : Type} : List (DataW H) → Nat
  | [] => 0
  | d :: r => uptoBulk d + uptoBulkAll r
def uptoBulkEntries {H : Type} : List (Lit × DataW H) → Nat
  | [] => 0
  | x :: r => uptoBulkEntry x + uptoBulkEntries r
def uptoBulkEntry {H : Type} : Lit × DataW H → Nat
  | (.string bytes, d) => bytes.length + uptoBulk d + 1
  | (_, d) => uptoBulk d + 1
 end
def uptoSmall : (H : Type) → List (DataW H) → Bool := fun _ ds => decide (uptoBulkAll ds ≤ 1048576)
def OpenSpec.upto (s : _root_.Go.ChangeSpec) : _root_.Go.OpenSpec := { _root_.Go.OpenSpec.ofChange s with cond := some uptoSmall }

/-- 'couchantlaw06.FlowNarrows', WHERE WHAT IT READS IS OF BULK AT MOST 1048576: true; the input reads as it did. -/
def flowNarrowsUptoRow : OpenClaim := { program := "ytddapgjjndbejaa", sum := "0abe936fbf9118c4a8a7cc1d72fa72180ecad86916f7f4d8fdad68326a4a66d6", func := "couchant/couchantlaw06.FlowNarrows", spec := "flowNarrows", unfollowed := true, recurses := true, apart := false, narrowed := true }
def FlowNarrowsUptoSaid : Prop := flowNarrowsUptoRow.holds Try.pinned (OpenSpec.upto flowNarrowsSpec)

/-- 'couchantlaw06.FlowMemory', WHERE WHAT IT READS IS OF BULK AT MOST 1048576: true; the input reads as it did. -/
def flowMemoryUptoRow : OpenClaim := { program := "ytddapgjjndbejaa", sum := "0abe936fbf9118c4a8a7cc1d72fa72180ecad86916f7f4d8fdad68326a4a66d6", func := "couchant/couchantlaw06.FlowMemory", spec := "flowMemory", unfollowed := true, recurses := true, apart := false, narrowed := true }
def FlowMemoryUptoSaid : Prop := flowMemoryUptoRow.holds Try.pinned (OpenSpec.upto flowMemorySpec)

/-- 'couchantlaw06.FlowObstacles', WHERE WHAT IT READS IS OF BULK AT MOST 1048576: true; the input reads as it did. -/
def flowObstaclesUptoRow : OpenClaim := { program := "ytddapgjjndbejaa", sum := "0abe936fbf9118c4a8a7cc1d72fa72180ecad86916f7f4d8fdad68326a4a66d6", func := "couchant/couchantlaw06.FlowObstacles", spec := "flowObstacles", unfollowed := true, recurses := true, apart := false, narrowed := true }
def FlowObstaclesUptoSaid : Prop := flowObstaclesUptoRow.holds Try.pinned (OpenSpec.upto flowObstaclesSpec)

/-- 'couchantlaw06.FlowChecks', WHERE WHAT IT READS IS OF BULK AT MOST 1048576: true; the input reads as it did. -/
def flowChecksUptoRow : OpenClaim := { program := "ytddapgjjndbejaa", sum := "0abe936fbf9118c4a8a7cc1d72fa72180ecad86916f7f4d8fdad68326a4a66d6", func := "couchant/couchantlaw06.FlowChecks", spec := "flowChecks", unfollowed := true, recurses := true, apart := false, narrowed := true }
def FlowChecksUptoSaid : Prop := flowChecksUptoRow.holds Try.pinned (OpenSpec.upto flowChecksSpec)

/-- 'couchantlaw06.FlowOrder', WHERE WHAT IT READS IS OF BULK AT MOST 1048576: true; the input reads as it did. -/
def flowOrderUptoRow : OpenClaim := { program := "ytddapgjjndbejaa", sum := "0abe936fbf9118c4a8a7cc1d72fa72180ecad86916f7f4d8fdad68326a4a66d6", func := "couchant/couchantlaw06.FlowOrder", spec := "flowOrder", unfollowed := true, recurses := true, apart := false, narrowed := true }
def FlowOrderUptoSaid : Prop := flowOrderUptoRow.holds Try.pinned (OpenSpec.upto flowOrderSpec)

/-- 'couchantlaw06.FlowEither', WHERE WHAT IT READS IS OF BULK AT MOST 1048576: true; the input reads as it did. -/
def flowEitherUptoRow : OpenClaim := { program := "ytddapgjjndbejaa", sum := "0abe936fbf9118c4a8a7cc1d72fa72180ecad86916f7f4d8fdad68326a4a66d6", func := "couchant/couchantlaw06.FlowEither", spec := "flowEither", unfollowed := true, recurses := true, apart := false, narrowed := true }
def FlowEitherUptoSaid : Prop := flowEitherUptoRow.holds Try.pinned (OpenSpec.upto flowEitherSpec)

/-- 'couchantlaw06.FlowLifted', WHERE WHAT IT READS IS OF BULK AT MOST 1048576: true; the input reads as it did. -/
def flowLiftedUptoRow : OpenClaim := { program := "ytddapgjjndbejaa", sum := "0abe936fbf9118c4a8a7cc1d72fa72180ecad86916f7f4d8fdad68326a4a66d6", func := "couchant/couchantlaw06.FlowLifted", spec := "flowLifted", unfollowed := true, recurses := true, apart := false, narrowed := true }
def FlowLiftedUptoSaid : Prop := flowLiftedUptoRow.holds Try.pinned (OpenSpec.upto flowLiftedSpec)

/-- 'couchantlaw06.FlowBest', WHERE WHAT IT READS IS OF BULK AT MOST 1048576: true; the input reads as it did. -/
def flowBestUptoRow : OpenClaim := { program := "ytddapgjjndbejaa", sum := "0abe936fbf9118c4a8a7cc1d72fa72180ecad86916f7f4d8fdad68326a4a66d6", func := "couchant/couchantlaw06.FlowBest", spec := "flowBest", unfollowed := true, recurses := true, apart := false, narrowed := true }
def FlowBestUptoSaid : Prop := flowBestUptoRow.holds Try.pinned (OpenSpec.upto flowBestSpec)

/-- 'couchantlaw06.FlowProves', WHERE WHAT IT READS IS OF BULK AT MOST 1048576: true; the input reads as it did. -/
def flowProvesUptoRow : OpenClaim := { program := "ytddapgjjndbejaa", sum := "0abe936fbf9118c4a8a7cc1d72fa72180ecad86916f7f4d8fdad68326a4a66d6", func := "couchant/couchantlaw06.FlowProves", spec := "flowProves", unfollowed := true, recurses := true, apart := false, narrowed := true }
def FlowProvesUptoSaid : Prop := flowProvesUptoRow.holds Try.pinned (OpenSpec.upto flowProvesSpec)

/-- 'couchantlaw06.FlowNets', WHERE WHAT IT READS IS OF BULK AT MOST 1048576: true; the input reads as it did. -/
def flowNetsUptoRow : OpenClaim := { program := "ytddapgjjndbejaa", sum := "0abe936fbf9118c4a8a7cc1d72fa72180ecad86916f7f4d8fdad68326a4a66d6", func := "couchant/couchantlaw06.FlowNets", spec := "flowNets", unfollowed := true, recurses := true, apart := false, narrowed := true }
def FlowNetsUptoSaid : Prop := flowNetsUptoRow.holds Try.pinned (OpenSpec.upto flowNetsSpec)

/-- 'couchantlaw06.FlowReaches', WHERE WHAT IT READS IS OF BULK AT MOST 1048576: true; the input reads as it did. -/
def flowReachesUptoRow : OpenClaim := { program := "ytddapgjjndbejaa", sum := "0abe936fbf9118c4a8a7cc1d72fa72180ecad86916f7f4d8fdad68326a4a66d6", func := "couchant/couchantlaw06.FlowReaches", spec := "flowReaches", unfollowed := true, recurses := true, apart := false, narrowed := true }
def FlowReachesUptoSaid : Prop := flowReachesUptoRow.holds Try.pinned (OpenSpec.upto flowReachesSpec)

/-- 'couchantlaw06.FlowSharp', WHERE WHAT IT READS IS OF BULK AT MOST 1048576: true; the input reads as it did. -/
def flowSharpUptoRow : OpenClaim := { program := "ytddapgjjndbejaa", sum := "0abe936fbf9118c4a8a7cc1d72fa72180ecad86916f7f4d8fdad68326a4a66d6", func := "couchant/couchantlaw06.FlowSharp", spec := "flowSharp", unfollowed := true, recurses := true, apart := false, narrowed := true }
def FlowSharpUptoSaid : Prop := flowSharpUptoRow.holds Try.pinned (OpenSpec.upto flowSharpSpec)

/-- 'couchantlaw06.FlowCircles', WHERE WHAT IT READS IS OF BULK AT MOST 1048576: true; the input reads as it did. -/
def flowCirclesUptoRow : OpenClaim := { program := "ytddapgjjndbejaa", sum := "0abe936fbf9118c4a8a7cc1d72fa72180ecad86916f7f4d8fdad68326a4a66d6", func := "couchant/couchantlaw06.FlowCircles", spec := "flowCircles", unfollowed := true, recurses := true, apart := false, narrowed := true }
def FlowCirclesUptoSaid : Prop := flowCirclesUptoRow.holds Try.pinned (OpenSpec.upto flowCirclesSpec)

/-- 'couchantlaw06.FlowParts', WHERE WHAT IT READS IS OF BULK AT MOST 1048576: true; the input reads as it did. -/
def flowPartsUptoRow : OpenClaim := { program := "ytddapgjjndbejaa", sum := "0abe936fbf9118c4a8a7cc1d72fa72180ecad86916f7f4d8fdad68326a4a66d6", func := "couchant/couchantlaw06.FlowParts", spec := "flowParts", unfollowed := true, recurses := true, apart := false, narrowed := true }
def FlowPartsUptoSaid : Prop := flowPartsUptoRow.holds Try.pinned (OpenSpec.upto flowPartsSpec)

/-- 'couchantlaw06.FlowFixed', WHERE WHAT IT READS IS OF BULK AT MOST 1048576: true; the input reads as it did. -/
def flowFixedUptoRow : OpenClaim := { program := "ytddapgjjndbejaa", sum := "0abe936fbf9118c4a8a7cc1d72fa72180ecad86916f7f4d8fdad68326a4a66d6", func := "couchant/couchantlaw06.FlowFixed", spec := "flowFixed", unfollowed := true, recurses := true, apart := false, narrowed := true }
def FlowFixedUptoSaid : Prop := flowFixedUptoRow.holds Try.pinned (OpenSpec.upto flowFixedSpec)

end Rows
end Go.Proofs.Ytddapgjjndbejaa
