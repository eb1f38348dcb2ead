/-
  No cell of these rows narrows 'for every input' (looked for: loops, veiled, ifaces, maps, wideKeys, modest, calm, conditions, laid).
  DERIVED. THE GIVEN ROWS OF THIS SEAT. 3 by the template 'for every input the law returns true; each argument reads behind the call as it read before'; 0 by the template 'total and deterministic' (their statements: YtlegfcmlfhlokaaGreatTotals.lean).
  GIVEN WITH THE SEED: the statements are not yours to turn. If you find one false, say at which input.
  Laid BY PROGRAM, IN A SANDBOX (cutbox-rows.mjs): the forced cells as the released guide's own fill.sh prints them over the translation c6e16d713fdc0880… (all of the seat's roots in one cut). By AI agents, Wed Nov 11 2026. No macro, syntax, notation, axiom, sorry.
-/
import Derived.Test.YtlegfcmlfhlokaaGreatChecked
import GoSem.Claim
import GoSem.ClaimJoined
import GoSem.ClaimMapViews
import Derived.JoinedTies
import Derived.KernelRfl
namespace Go.Proofs.YtlegfcmlfhlokaaGreat
/- THE CELL 'sum', in the pinned program and in every row, IS THE sha256 OF THE DUMP (.gsa) THAT YtlegfcmlfhlokaaGreatProg.lean LOADS. Nothing in Lean hashes anything: it is a label: what it is worth is what the hold of that sum in a sandbox is worth. -/
noncomputable def Tryz.pinned : Pinned := { name := "ytlegfcmlfhlokaagreat", sum := "c6e16d713fdc0880c0301aecf5a347d3ca1415805f6d25d5758b9c5dc95ff28d", checked := Tryz.checked }
namespace Rows
def none {H : Type} : Left H := { results := [], args := [] }

/-- 'couchanttop.TopHeirs': WHATEVER THE INPUT: true; the input reads as it did. -/
def topHeirsSpec : ChangeSpec := { name := "topHeirs", fn := fun _ => fun
  | [d1, d2, d3, d4, d5] => { results := [.lit (.bool true)], args := [d1, d2, d3, d4, d5] }
  | _ => none }
def topHeirsRow : OpenClaim := { program := "ytlegfcmlfhlokaagreat", sum := "c6e16d713fdc0880c0301aecf5a347d3ca1415805f6d25d5758b9c5dc95ff28d", func := "couchant/couchanttop.TopHeirs", spec := "topHeirs", unfollowed := true, recurses := true, apart := false }
def TopHeirsSaid : Prop := topHeirsRow.holds Tryz.pinned (OpenSpec.ofChange topHeirsSpec)

/-- ITS FALSE NEIGHBOUR: 'it returns false'. Refute it at one input. -/
def topHeirsWrong : ChangeSpec := { name := "topHeirs", fn := fun _ => fun
  | [d1, d2, d3, d4, d5] => { results := [.lit (.bool false)], args := [d1, d2, d3, d4, d5] }
  | _ => none }
def TopHeirsWrongFalsely : Prop := topHeirsRow.holds Tryz.pinned (OpenSpec.ofChange topHeirsWrong)

/-- 'couchanttop.TopStints': WHATEVER THE INPUT: true; the input reads as it did. -/
def topStintsSpec : ChangeSpec := { name := "topStints", fn := fun _ => fun
  | [d1, d2, d3, d4, d5] => { results := [.lit (.bool true)], args := [d1, d2, d3, d4, d5] }
  | _ => none }
def topStintsRow : OpenClaim := { program := "ytlegfcmlfhlokaagreat", sum := "c6e16d713fdc0880c0301aecf5a347d3ca1415805f6d25d5758b9c5dc95ff28d", func := "couchant/couchanttop.TopStints", spec := "topStints", unfollowed := true, recurses := true, apart := false }
def TopStintsSaid : Prop := topStintsRow.holds Tryz.pinned (OpenSpec.ofChange topStintsSpec)

/-- ITS FALSE NEIGHBOUR: 'it returns false'. Refute it at one input. -/
def topStintsWrong : ChangeSpec := { name := "topStints", fn := fun _ => fun
  | [d1, d2, d3, d4, d5] => { results := [.lit (.bool false)], args := [d1, d2, d3, d4, d5] }
  | _ => none }
def TopStintsWrongFalsely : Prop := topStintsRow.holds Tryz.pinned (OpenSpec.ofChange topStintsWrong)

/-- 'couchanttop.TopMost': WHATEVER THE INPUT: true; the input reads as it did. -/
def topMostSpec : ChangeSpec := { name := "topMost", fn := fun _ => fun
  | [d1, d2, d3, d4, d5, d6] => { results := [.lit (.bool true)], args := [d1, d2, d3, d4, d5, d6] }
  | _ => none }
def topMostRow : OpenClaim := { program := "ytlegfcmlfhlokaagreat", sum := "c6e16d713fdc0880c0301aecf5a347d3ca1415805f6d25d5758b9c5dc95ff28d", func := "couchant/couchanttop.TopMost", spec := "topMost", unfollowed := true, recurses := true, apart := false }
def TopMostSaid : Prop := topMostRow.holds Tryz.pinned (OpenSpec.ofChange topMostSpec)

/-- ITS FALSE NEIGHBOUR: 'it returns false'. Refute it at one input. -/
def topMostWrong : ChangeSpec := { name := "topMost", fn := fun _ => fun
  | [d1, d2, d3, d4, d5, d6] => { results := [.lit (.bool false)], args := [d1, d2, d3, d4, d5, d6] }
  | _ => none }
def TopMostWrongFalsely : Prop := topMostRow.holds Tryz.pinned (OpenSpec.ofChange topMostWrong)

/- THE SECOND FORM. 'bulk': how many values and letters a reading holds, each counted each time it is reached (what is shared counts as often as it is met; a slice's spare places count too). A statement '..UptoSaid' is the law's where the arguments, and the package variables that the reading takes, are together of bulk at most 1048576: NARROWER than '..Said'. Prove '..Said' where nothing that the law and all that it calls make is longer than what came in: it says more and counts as full. Else prove '..UptoSaid'. A law counts once. -/
mutual
def uptoBulk {H : Type} : DataW H → Nat
  | .lit (.string bytes) => bytes.length + 1
  | .lit _ => 1
  | .nil => 1
  | .ptr d => uptoBulk d + 1
  | .slice elems spare => uptoBulkAll elems + uptoBulkAll spare + 1
  | .agg parts => uptoBulkAll parts + 1
  | .iface _ d => uptoBulk d + 1
  | .map entries => uptoBulkEntries entries + 1
  | .held _ => 1
def uptoBulkAll {H : Type} : List (DataW H) → Nat
  | [] => 0
  | d :: r => uptoBulk d + uptoBulkAll r
def uptoBulkEntries {H : Type} : List (Lit × DataW H) → Nat
  | [] => 0
  | x :: r => uptoBulkEntry x + uptoBulkEntries r
def uptoBulkEntry {H : Type} : Lit × DataW H → Nat
  | (.string bytes, d) => bytes.length + uptoBulk d + 1
  | (_, d) => uptoBulk d + 1
 end
def uptoSmall : (H : Type) → List (DataW H) → Bool := fun _ ds => decide (uptoBulkAll ds ≤ 1048576)
def OpenSpec.upto (s : _root_.Go.ChangeSpec) : _root_.Go.OpenSpec := { _root_.Go.OpenSpec.ofChange s with cond := some uptoSmall }

/-- 'couchanttop.TopHeirs', WHERE WHAT IT READS IS OF BULK AT MOST 1048576: true; the input reads as it did. -/
def topHeirsUptoRow : OpenClaim := { program := "ytlegfcmlfhlokaagreat", sum := "c6e16d713fdc0880c0301aecf5a347d3ca1415805f6d25d5758b9c5dc95ff28d", func := "couchant/couchanttop.TopHeirs", spec := "topHeirs", unfollowed := true, recurses := true, apart := false, narrowed := true }
def TopHeirsUptoSaid : Prop := topHeirsUptoRow.holds Tryz.pinned (OpenSpec.upto topHeirsSpec)

/-- 'couchanttop.TopStints', WHERE WHAT IT READS IS OF BULK AT MOST 1048576: true; the input reads as it did. -/
def topStintsUptoRow : OpenClaim := { program := "ytlegfcmlfhlokaagreat", sum := "c6e16d713fdc0880c0301aecf5a347d3ca1415805f6d25d5758b9c5dc95ff28d", func := "couchant/couchanttop.TopStints", spec := "topStints", unfollowed := true, recurses := true, apart := false, narrowed := true }
def TopStintsUptoSaid : Prop := topStintsUptoRow.holds Tryz.pinned (OpenSpec.upto topStintsSpec)

/-- 'couchanttop.TopMost', WHERE WHAT IT READS IS OF BULK AT MOST 1048576: true; the input reads as it did. -/
def topMostUptoRow : OpenClaim := { program := "ytlegfcmlfhlokaagreat", sum := "c6e16d713fdc0880c0301aecf5a347d3ca1415805f6d25d5758b9c5dc95ff28d", func := "couchant/couchanttop.TopMost", spec := "topMost", unfollowed := true, recurses := true, apart := false, narrowed := true }
def TopMostUptoSaid : Prop := topMostUptoRow.holds Tryz.pinned (OpenSpec.upto topMostSpec)

end Rows
end Go.Proofs.YtlegfcmlfhlokaaGreat
