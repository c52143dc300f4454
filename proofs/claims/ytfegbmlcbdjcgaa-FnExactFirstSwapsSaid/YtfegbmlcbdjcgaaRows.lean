/-
  No cell of these rows narrows 'for every input' (looked for: loops, veiled, ifaces, maps, wideKeys, modest, calm, conditions, laid).
  DERIVED. THE GIVEN ROWS OF THIS SEAT. 7 by the template 'for every input the law returns true; each argument reads behind the call as it read before'; 0 by the template 'total and deterministic' (their statements: YtfegbmlcbdjcgaaTotals.lean).
  GIVEN WITH THE SEED: the statements are not yours to turn. If you find one false, say at which input.
  Laid BY PROGRAM, IN A SANDBOX (cutbox-rows.mjs): the forced cells as the released guide's own fill.sh prints them over the translation f0625ddebc90b2f3… (all of the seat's roots in one cut). By AI agents, Wed Nov 11 2026. No macro, syntax, notation, axiom, sorry.
-/
import Derived.Test.YtfegbmlcbdjcgaaChecked
import GoSem.Claim
import GoSem.ClaimJoined
import GoSem.ClaimMapViews
import Derived.JoinedTies
import Derived.KernelRfl
namespace Go.Proofs.Ytfegbmlcbdjcgaa
/- THE CELL 'sum', in the pinned program and in every row, IS THE sha256 OF THE DUMP (.gsa) THAT YtfegbmlcbdjcgaaProg.lean LOADS. Nothing in Lean hashes anything: it is a label: what it is worth is what the hold of that sum in a sandbox is worth. -/
noncomputable def Try.pinned : Pinned := { name := "ytfegbmlcbdjcgaa", sum := "f0625ddebc90b2f37cf412ac7615f0e396a6be96b25f455d5dd08909ea0d2c1a", checked := Try.checked }
namespace Rows
def none {H : Type} : Left H := { results := [], args := [] }

/-- 'laws.FnExactFewestInserts': WHATEVER THE INPUT: true; the input reads as it did. -/
def fnExactFewestInsertsSpec : ChangeSpec := { name := "fnExactFewestInserts", fn := fun _ => fun
  | [d] => { results := [.lit (.bool true)], args := [d] }
  | _ => none }
def fnExactFewestInsertsRow : OpenClaim := { program := "ytfegbmlcbdjcgaa", sum := "f0625ddebc90b2f37cf412ac7615f0e396a6be96b25f455d5dd08909ea0d2c1a", func := "loop.example/g01352/laws.FnExactFewestInserts", spec := "fnExactFewestInserts", unfollowed := true, recurses := true, apart := false }
def FnExactFewestInsertsSaid : Prop := fnExactFewestInsertsRow.holds Try.pinned (OpenSpec.ofChange fnExactFewestInsertsSpec)

/-- ITS FALSE NEIGHBOUR: 'it returns false'. Refute it at one input. -/
def fnExactFewestInsertsWrong : ChangeSpec := { name := "fnExactFewestInserts", fn := fun _ => fun
  | [d] => { results := [.lit (.bool false)], args := [d] }
  | _ => none }
def FnExactFewestInsertsWrongFalsely : Prop := fnExactFewestInsertsRow.holds Try.pinned (OpenSpec.ofChange fnExactFewestInsertsWrong)

/-- 'laws.FnExactLongestRising': WHATEVER THE INPUT: true; the input reads as it did. -/
def fnExactLongestRisingSpec : ChangeSpec := { name := "fnExactLongestRising", fn := fun _ => fun
  | [d] => { results := [.lit (.bool true)], args := [d] }
  | _ => none }
def fnExactLongestRisingRow : OpenClaim := { program := "ytfegbmlcbdjcgaa", sum := "f0625ddebc90b2f37cf412ac7615f0e396a6be96b25f455d5dd08909ea0d2c1a", func := "loop.example/g01352/laws.FnExactLongestRising", spec := "fnExactLongestRising", unfollowed := true, recurses := true, apart := false }
def FnExactLongestRisingSaid : Prop := fnExactLongestRisingRow.holds Try.pinned (OpenSpec.ofChange fnExactLongestRisingSpec)

/-- ITS FALSE NEIGHBOUR: 'it returns false'. Refute it at one input. -/
def fnExactLongestRisingWrong : ChangeSpec := { name := "fnExactLongestRising", fn := fun _ => fun
  | [d] => { results := [.lit (.bool false)], args := [d] }
  | _ => none }
def FnExactLongestRisingWrongFalsely : Prop := fnExactLongestRisingRow.holds Try.pinned (OpenSpec.ofChange fnExactLongestRisingWrong)

/-- 'laws.FnExactSwapBoats': WHATEVER THE INPUT: true; the input reads as it did. -/
def fnExactSwapBoatsSpec : ChangeSpec := { name := "fnExactSwapBoats", fn := fun _ => fun
  | [d1, d2, d3] => { results := [.lit (.bool true)], args := [d1, d2, d3] }
  | _ => none }
def fnExactSwapBoatsRow : OpenClaim := { program := "ytfegbmlcbdjcgaa", sum := "f0625ddebc90b2f37cf412ac7615f0e396a6be96b25f455d5dd08909ea0d2c1a", func := "loop.example/g01352/laws.FnExactSwapBoats", spec := "fnExactSwapBoats", unfollowed := true, recurses := true, apart := false }
def FnExactSwapBoatsSaid : Prop := fnExactSwapBoatsRow.holds Try.pinned (OpenSpec.ofChange fnExactSwapBoatsSpec)

/-- ITS FALSE NEIGHBOUR: 'it returns false'. Refute it at one input. -/
def fnExactSwapBoatsWrong : ChangeSpec := { name := "fnExactSwapBoats", fn := fun _ => fun
  | [d1, d2, d3] => { results := [.lit (.bool false)], args := [d1, d2, d3] }
  | _ => none }
def FnExactSwapBoatsWrongFalsely : Prop := fnExactSwapBoatsRow.holds Try.pinned (OpenSpec.ofChange fnExactSwapBoatsWrong)

/-- 'laws.FnExactFirstNeighbourSwaps': WHATEVER THE INPUT: true; the input reads as it did. -/
def fnExactFirstNeighbourSwapsSpec : ChangeSpec := { name := "fnExactFirstNeighbourSwaps", fn := fun _ => fun
  | [d] => { results := [.lit (.bool true)], args := [d] }
  | _ => none }
def fnExactFirstNeighbourSwapsRow : OpenClaim := { program := "ytfegbmlcbdjcgaa", sum := "f0625ddebc90b2f37cf412ac7615f0e396a6be96b25f455d5dd08909ea0d2c1a", func := "loop.example/g01352/laws.FnExactFirstNeighbourSwaps", spec := "fnExactFirstNeighbourSwaps", unfollowed := true, recurses := true, apart := false }
def FnExactFirstNeighbourSwapsSaid : Prop := fnExactFirstNeighbourSwapsRow.holds Try.pinned (OpenSpec.ofChange fnExactFirstNeighbourSwapsSpec)

/-- ITS FALSE NEIGHBOUR: 'it returns false'. Refute it at one input. -/
def fnExactFirstNeighbourSwapsWrong : ChangeSpec := { name := "fnExactFirstNeighbourSwaps", fn := fun _ => fun
  | [d] => { results := [.lit (.bool false)], args := [d] }
  | _ => none }
def FnExactFirstNeighbourSwapsWrongFalsely : Prop := fnExactFirstNeighbourSwapsRow.holds Try.pinned (OpenSpec.ofChange fnExactFirstNeighbourSwapsWrong)

/-- 'laws.FnExactCyclesOfOrder': WHATEVER THE INPUT: true; the input reads as it did. -/
def fnExactCyclesOfOrderSpec : ChangeSpec := { name := "fnExactCyclesOfOrder", fn := fun _ => fun
  | [d] => { results := [.lit (.bool true)], args := [d] }
  | _ => none }
def fnExactCyclesOfOrderRow : OpenClaim := { program := "ytfegbmlcbdjcgaa", sum := "f0625ddebc90b2f37cf412ac7615f0e396a6be96b25f455d5dd08909ea0d2c1a", func := "loop.example/g01352/laws.FnExactCyclesOfOrder", spec := "fnExactCyclesOfOrder", unfollowed := true, recurses := true, apart := false }
def FnExactCyclesOfOrderSaid : Prop := fnExactCyclesOfOrderRow.holds Try.pinned (OpenSpec.ofChange fnExactCyclesOfOrderSpec)

/-- ITS FALSE NEIGHBOUR: 'it returns false'. Refute it at one input. -/
def fnExactCyclesOfOrderWrong : ChangeSpec := { name := "fnExactCyclesOfOrder", fn := fun _ => fun
  | [d] => { results := [.lit (.bool false)], args := [d] }
  | _ => none }
def FnExactCyclesOfOrderWrongFalsely : Prop := fnExactCyclesOfOrderRow.holds Try.pinned (OpenSpec.ofChange fnExactCyclesOfOrderWrong)

/-- 'laws.FnExactFirstSwaps': WHATEVER THE INPUT: true; the input reads as it did. -/
def fnExactFirstSwapsSpec : ChangeSpec := { name := "fnExactFirstSwaps", fn := fun _ => fun
  | [d] => { results := [.lit (.bool true)], args := [d] }
  | _ => none }
def fnExactFirstSwapsRow : OpenClaim := { program := "ytfegbmlcbdjcgaa", sum := "f0625ddebc90b2f37cf412ac7615f0e396a6be96b25f455d5dd08909ea0d2c1a", func := "loop.example/g01352/laws.FnExactFirstSwaps", spec := "fnExactFirstSwaps", unfollowed := true, recurses := true, apart := false }
def FnExactFirstSwapsSaid : Prop := fnExactFirstSwapsRow.holds Try.pinned (OpenSpec.ofChange fnExactFirstSwapsSpec)

/-- ITS FALSE NEIGHBOUR: 'it returns false'. Refute it at one input. -/
def fnExactFirstSwapsWrong : ChangeSpec := { name := "fnExactFirstSwaps", fn := fun _ => fun
  | [d] => { results := [.lit (.bool false)], args := [d] }
  | _ => none }
def FnExactFirstSwapsWrongFalsely : Prop := fnExactFirstSwapsRow.holds Try.pinned (OpenSpec.ofChange fnExactFirstSwapsWrong)

/-- 'laws.FnExactMoveBoat': WHATEVER THE INPUT: true; the input reads as it did. -/
def fnExactMoveBoatSpec : ChangeSpec := { name := "fnExactMoveBoat", fn := fun _ => fun
  | [d1, d2, d3] => { results := [.lit (.bool true)], args := [d1, d2, d3] }
  | _ => none }
def fnExactMoveBoatRow : OpenClaim := { program := "ytfegbmlcbdjcgaa", sum := "f0625ddebc90b2f37cf412ac7615f0e396a6be96b25f455d5dd08909ea0d2c1a", func := "loop.example/g01352/laws.FnExactMoveBoat", spec := "fnExactMoveBoat", inPlace := ["slices.overlaps[int]"], unfollowed := true, recurses := true, apart := false }
def FnExactMoveBoatSaid : Prop := fnExactMoveBoatRow.holds Try.pinned (OpenSpec.ofChange fnExactMoveBoatSpec)

/-- ITS FALSE NEIGHBOUR: 'it returns false'. Refute it at one input. -/
def fnExactMoveBoatWrong : ChangeSpec := { name := "fnExactMoveBoat", fn := fun _ => fun
  | [d1, d2, d3] => { results := [.lit (.bool false)], args := [d1, d2, d3] }
  | _ => none }
def FnExactMoveBoatWrongFalsely : Prop := fnExactMoveBoatRow.holds Try.pinned (OpenSpec.ofChange fnExactMoveBoatWrong)

/- THE SECOND FORM. 'bulk': how many values and letters a reading holds, each counted each time it is reached (what is shared counts as often as it is met; a slice's spare places count too). A statement '..UptoSaid' is the law's where the arguments, and the package variables that the reading takes, are together of bulk at most 1048576: NARROWER than '..Said'. Prove '..Said' where nothing that the law and all that it calls make is longer than what came in: it says more and counts as full. Else prove '..UptoSaid'. A law counts once. -/
mutual
def uptoBulk {H : Type} : DataW H → Nat
  | .lit (.string bytes) => bytes.length + 1
  | .lit _ => 1
  | .nil => 1
  | .ptr d => uptoBulk d + 1
  | .slice elems spare => uptoBulkAll elems + uptoBulkAll spare + 1
  | .agg parts => uptoBulkAll parts + 1
  | .iface _ d => uptoBulk d + 1
  | .map entries => uptoBulkEntries entries + 1
  | .held _ => 1
def uptoBulkAll {H : Type} : List (DataW H) → Nat
  | [] => 0
  | d :: r => uptoBulk d + uptoBulkAll r
def uptoBulkEntries {H : Type} : List (Lit × DataW H) → Nat
  | [] => 0
  | x :: r => uptoBulkEntry x + uptoBulkEntries r
def uptoBulkEntry {H : Type} : Lit × DataW H → Nat
  | (.string bytes, d) => bytes.length + uptoBulk d + 1
  | (_, d) => uptoBulk d + 1
 end
def uptoSmall : (H : Type) → List (DataW H) → Bool := fun _ ds => decide (uptoBulkAll ds ≤ 1048576)
def OpenSpec.upto (s : _root_.Go.ChangeSpec) : _root_.Go.OpenSpec := { _root_.Go.OpenSpec.ofChange s with cond := some uptoSmall }

/-- 'laws.FnExactFewestInserts', WHERE WHAT IT READS IS OF BULK AT MOST 1048576: true; the input reads as it did. -/
def fnExactFewestInsertsUptoRow : OpenClaim := { program := "ytfegbmlcbdjcgaa", sum := "f0625ddebc90b2f37cf412ac7615f0e396a6be96b25f455d5dd08909ea0d2c1a", func := "loop.example/g01352/laws.FnExactFewestInserts", spec := "fnExactFewestInserts", unfollowed := true, recurses := true, apart := false, narrowed := true }
def FnExactFewestInsertsUptoSaid : Prop := fnExactFewestInsertsUptoRow.holds Try.pinned (OpenSpec.upto fnExactFewestInsertsSpec)

/-- 'laws.FnExactLongestRising', WHERE WHAT IT READS IS OF BULK AT MOST 1048576: true; the input reads as it did. -/
def fnExactLongestRisingUptoRow : OpenClaim := { program := "ytfegbmlcbdjcgaa", sum := "f0625ddebc90b2f37cf412ac7615f0e396a6be96b25f455d5dd08909ea0d2c1a", func := "loop.example/g01352/laws.FnExactLongestRising", spec := "fnExactLongestRising", unfollowed := true, recurses := true, apart := false, narrowed := true }
def FnExactLongestRisingUptoSaid : Prop := fnExactLongestRisingUptoRow.holds Try.pinned (OpenSpec.upto fnExactLongestRisingSpec)

/-- 'laws.FnExactSwapBoats', WHERE WHAT IT READS IS OF BULK AT MOST 1048576: true; the input reads as it did. -/
def fnExactSwapBoatsUptoRow : OpenClaim := { program := "ytfegbmlcbdjcgaa", sum := "f0625ddebc90b2f37cf412ac7615f0e396a6be96b25f455d5dd08909ea0d2c1a", func := "loop.example/g01352/laws.FnExactSwapBoats", spec := "fnExactSwapBoats", unfollowed := true, recurses := true, apart := false, narrowed := true }
def FnExactSwapBoatsUptoSaid : Prop := fnExactSwapBoatsUptoRow.holds Try.pinned (OpenSpec.upto fnExactSwapBoatsSpec)

/-- 'laws.FnExactFirstNeighbourSwaps', WHERE WHAT IT READS IS OF BULK AT MOST 1048576: true; the input reads as it did. -/
def fnExactFirstNeighbourSwapsUptoRow : OpenClaim := { program := "ytfegbmlcbdjcgaa", sum := "f0625ddebc90b2f37cf412ac7615f0e396a6be96b25f455d5dd08909ea0d2c1a", func := "loop.example/g01352/laws.FnExactFirstNeighbourSwaps", spec := "fnExactFirstNeighbourSwaps", unfollowed := true, recurses := true, apart := false, narrowed := true }
def FnExactFirstNeighbourSwapsUptoSaid : Prop := fnExactFirstNeighbourSwapsUptoRow.holds Try.pinned (OpenSpec.upto fnExactFirstNeighbourSwapsSpec)

/-- 'laws.FnExactCyclesOfOrder', WHERE WHAT IT READS IS OF BULK AT MOST 1048576: true; the input reads as it did. -/
def fnExactCyclesOfOrderUptoRow : OpenClaim := { program := "ytfegbmlcbdjcgaa", sum := "f0625ddebc90b2f37cf412ac7615f0e396a6be96b25f455d5dd08909ea0d2c1a", func := "loop.example/g01352/laws.FnExactCyclesOfOrder", spec := "fnExactCyclesOfOrder", unfollowed := true, recurses := true, apart := false, narrowed := true }
def FnExactCyclesOfOrderUptoSaid : Prop := fnExactCyclesOfOrderUptoRow.holds Try.pinned (OpenSpec.upto fnExactCyclesOfOrderSpec)

/-- 'laws.FnExactFirstSwaps', WHERE WHAT IT READS IS OF BULK AT MOST 1048576: true; the input reads as it did. -/
def fnExactFirstSwapsUptoRow : OpenClaim := { program := "ytfegbmlcbdjcgaa", sum := "f0625ddebc90b2f37cf412ac7615f0e396a6be96b25f455d5dd08909ea0d2c1a", func := "loop.example/g01352/laws.FnExactFirstSwaps", spec := "fnExactFirstSwaps", unfollowed := true, recurses := true, apart := false, narrowed := true }
def FnExactFirstSwapsUptoSaid : Prop := fnExactFirstSwapsUptoRow.holds Try.pinned (OpenSpec.upto fnExactFirstSwapsSpec)

/-- 'laws.FnExactMoveBoat', WHERE WHAT IT READS IS OF BULK AT MOST 1048576: true; the input reads as it did. -/
def fnExactMoveBoatUptoRow : OpenClaim := { program := "ytfegbmlcbdjcgaa", sum := "f0625ddebc90b2f37cf412ac7615f0e396a6be96b25f455d5dd08909ea0d2c1a", func := "loop.example/g01352/laws.FnExactMoveBoat", spec := "fnExactMoveBoat", inPlace := ["slices.overlaps[int]"], unfollowed := true, recurses := true, apart := false, narrowed := true }
def FnExactMoveBoatUptoSaid : Prop := fnExactMoveBoatUptoRow.holds Try.pinned (OpenSpec.upto fnExactMoveBoatSpec)

end Rows
end Go.Proofs.Ytfegbmlcbdjcgaa
