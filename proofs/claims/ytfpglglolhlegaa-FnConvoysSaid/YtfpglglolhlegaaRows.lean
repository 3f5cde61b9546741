/-
  No cell of these rows narrows 'for every input' (looked for: loops, veiled, ifaces, maps, wideKeys, modest, calm, conditions, laid).
  DERIVED. THE GIVEN ROWS OF THIS SEAT. 12 by the template 'for every input the law returns true; each argument reads behind the call as it read before'; 0 by the template 'total and deterministic' (their statements: YtfpglglolhlegaaTotals.lean).
  GIVEN WITH THE SEED: the statements are not yours to turn. If you find one false, say at which input.
  Laid BY PROGRAM, IN A SANDBOX (cutbox-rows.mjs): the forced cells as the released guide's own fill.sh prints them over the translation e377810ee9bc254c… (all of the seat's roots in one cut). By AI agents, Wed Nov 11 2026. No macro, syntax, notation, axiom, sorry.
-/
import Derived.Test.YtfpglglolhlegaaChecked
import GoSem.Claim
import GoSem.ClaimJoined
import GoSem.ClaimMapViews
import Derived.JoinedTies
import Derived.KernelRfl
namespace Go.Proofs.Ytfpglglolhlegaa
/- THE CELL 'sum', in the pinned program and in every row, IS THE sha256 OF THE DUMP (.gsa) THAT YtfpglglolhlegaaProg.lean LOADS. Nothing in Lean hashes anything: it is a label: what it is worth is what the hold of that sum in a sandbox is worth. -/
noncomputable def Try.pinned : Pinned := { name := "ytfpglglolhlegaa", sum := "e377810ee9bc254ceebfedaab30f052fac7289858e2bee02de7787d51ffb0662", checked := Try.checked }
namespace Rows
def none {H : Type} : Left H := { results := [], args := [] }

/-- 'laws.FnExactIsValidConvoy': WHATEVER THE INPUT: true; the input reads as it did. -/
def fnExactIsValidConvoySpec : ChangeSpec := { name := "fnExactIsValidConvoy", fn := fun _ => fun
  | [d] => { results := [.lit (.bool true)], args := [d] }
  | _ => none }
def fnExactIsValidConvoyRow : OpenClaim := { program := "ytfpglglolhlegaa", sum := "e377810ee9bc254ceebfedaab30f052fac7289858e2bee02de7787d51ffb0662", func := "loop.example/g00924/laws.FnExactIsValidConvoy", spec := "fnExactIsValidConvoy", unfollowed := true, recurses := true, apart := false }
def FnExactIsValidConvoySaid : Prop := fnExactIsValidConvoyRow.holds Try.pinned (OpenSpec.ofChange fnExactIsValidConvoySpec)

/-- ITS FALSE NEIGHBOUR: 'it returns false'. Refute it at one input. -/
def fnExactIsValidConvoyWrong : ChangeSpec := { name := "fnExactIsValidConvoy", fn := fun _ => fun
  | [d] => { results := [.lit (.bool false)], args := [d] }
  | _ => none }
def FnExactIsValidConvoyWrongFalsely : Prop := fnExactIsValidConvoyRow.holds Try.pinned (OpenSpec.ofChange fnExactIsValidConvoyWrong)

/-- 'laws.FnExactConvoyLength': WHATEVER THE INPUT: true; the input reads as it did. -/
def fnExactConvoyLengthSpec : ChangeSpec := { name := "fnExactConvoyLength", fn := fun _ => fun
  | [d] => { results := [.lit (.bool true)], args := [d] }
  | _ => none }
def fnExactConvoyLengthRow : OpenClaim := { program := "ytfpglglolhlegaa", sum := "e377810ee9bc254ceebfedaab30f052fac7289858e2bee02de7787d51ffb0662", func := "loop.example/g00924/laws.FnExactConvoyLength", spec := "fnExactConvoyLength", unfollowed := true, recurses := true, apart := false }
def FnExactConvoyLengthSaid : Prop := fnExactConvoyLengthRow.holds Try.pinned (OpenSpec.ofChange fnExactConvoyLengthSpec)

/-- ITS FALSE NEIGHBOUR: 'it returns false'. Refute it at one input. -/
def fnExactConvoyLengthWrong : ChangeSpec := { name := "fnExactConvoyLength", fn := fun _ => fun
  | [d] => { results := [.lit (.bool false)], args := [d] }
  | _ => none }
def FnExactConvoyLengthWrongFalsely : Prop := fnExactConvoyLengthRow.holds Try.pinned (OpenSpec.ofChange fnExactConvoyLengthWrong)

/-- 'laws.FnConvoys': WHATEVER THE INPUT: true; the input reads as it did. -/
def fnConvoysSpec : ChangeSpec := { name := "fnConvoys", fn := fun _ => fun
  | [d] => { results := [.lit (.bool true)], args := [d] }
  | _ => none }
def fnConvoysRow : OpenClaim := { program := "ytfpglglolhlegaa", sum := "e377810ee9bc254ceebfedaab30f052fac7289858e2bee02de7787d51ffb0662", func := "loop.example/g00924/laws.FnConvoys", spec := "fnConvoys", unfollowed := true, recurses := true, apart := false }
def FnConvoysSaid : Prop := fnConvoysRow.holds Try.pinned (OpenSpec.ofChange fnConvoysSpec)

/-- ITS FALSE NEIGHBOUR: 'it returns false'. Refute it at one input. -/
def fnConvoysWrong : ChangeSpec := { name := "fnConvoys", fn := fun _ => fun
  | [d] => { results := [.lit (.bool false)], args := [d] }
  | _ => none }
def FnConvoysWrongFalsely : Prop := fnConvoysRow.holds Try.pinned (OpenSpec.ofChange fnConvoysWrong)

/-- 'laws.FnExactJoinConvoys': WHATEVER THE INPUT: true; the input reads as it did. -/
def fnExactJoinConvoysSpec : ChangeSpec := { name := "fnExactJoinConvoys", fn := fun _ => fun
  | [d1, d2] => { results := [.lit (.bool true)], args := [d1, d2] }
  | _ => none }
def fnExactJoinConvoysRow : OpenClaim := { program := "ytfpglglolhlegaa", sum := "e377810ee9bc254ceebfedaab30f052fac7289858e2bee02de7787d51ffb0662", func := "loop.example/g00924/laws.FnExactJoinConvoys", spec := "fnExactJoinConvoys", unfollowed := true, recurses := true, apart := false }
def FnExactJoinConvoysSaid : Prop := fnExactJoinConvoysRow.holds Try.pinned (OpenSpec.ofChange fnExactJoinConvoysSpec)

/-- ITS FALSE NEIGHBOUR: 'it returns false'. Refute it at one input. -/
def fnExactJoinConvoysWrong : ChangeSpec := { name := "fnExactJoinConvoys", fn := fun _ => fun
  | [d1, d2] => { results := [.lit (.bool false)], args := [d1, d2] }
  | _ => none }
def FnExactJoinConvoysWrongFalsely : Prop := fnExactJoinConvoysRow.holds Try.pinned (OpenSpec.ofChange fnExactJoinConvoysWrong)

/-- 'laws.FnExactLeaveBarges': WHATEVER THE INPUT: true; the input reads as it did. -/
def fnExactLeaveBargesSpec : ChangeSpec := { name := "fnExactLeaveBarges", fn := fun _ => fun
  | [d1, d2, d3] => { results := [.lit (.bool true)], args := [d1, d2, d3] }
  | _ => none }
def fnExactLeaveBargesRow : OpenClaim := { program := "ytfpglglolhlegaa", sum := "e377810ee9bc254ceebfedaab30f052fac7289858e2bee02de7787d51ffb0662", func := "loop.example/g00924/laws.FnExactLeaveBarges", spec := "fnExactLeaveBarges", unfollowed := true, recurses := true, apart := false }
def FnExactLeaveBargesSaid : Prop := fnExactLeaveBargesRow.holds Try.pinned (OpenSpec.ofChange fnExactLeaveBargesSpec)

/-- ITS FALSE NEIGHBOUR: 'it returns false'. Refute it at one input. -/
def fnExactLeaveBargesWrong : ChangeSpec := { name := "fnExactLeaveBarges", fn := fun _ => fun
  | [d1, d2, d3] => { results := [.lit (.bool false)], args := [d1, d2, d3] }
  | _ => none }
def FnExactLeaveBargesWrongFalsely : Prop := fnExactLeaveBargesRow.holds Try.pinned (OpenSpec.ofChange fnExactLeaveBargesWrong)

/-- 'laws.FnExactShortestChamber': WHATEVER THE INPUT: true; the input reads as it did. -/
def fnExactShortestChamberSpec : ChangeSpec := { name := "fnExactShortestChamber", fn := fun _ => fun
  | [d1, d2] => { results := [.lit (.bool true)], args := [d1, d2] }
  | _ => none }
def fnExactShortestChamberRow : OpenClaim := { program := "ytfpglglolhlegaa", sum := "e377810ee9bc254ceebfedaab30f052fac7289858e2bee02de7787d51ffb0662", func := "loop.example/g00924/laws.FnExactShortestChamber", spec := "fnExactShortestChamber", unfollowed := true, recurses := true, apart := false }
def FnExactShortestChamberSaid : Prop := fnExactShortestChamberRow.holds Try.pinned (OpenSpec.ofChange fnExactShortestChamberSpec)

/-- ITS FALSE NEIGHBOUR: 'it returns false'. Refute it at one input. -/
def fnExactShortestChamberWrong : ChangeSpec := { name := "fnExactShortestChamber", fn := fun _ => fun
  | [d1, d2] => { results := [.lit (.bool false)], args := [d1, d2] }
  | _ => none }
def FnExactShortestChamberWrongFalsely : Prop := fnExactShortestChamberRow.holds Try.pinned (OpenSpec.ofChange fnExactShortestChamberWrong)

/-- 'laws.FnExactIsSplit': WHATEVER THE INPUT: true; the input reads as it did. -/
def fnExactIsSplitSpec : ChangeSpec := { name := "fnExactIsSplit", fn := fun _ => fun
  | [d1, d2, d3] => { results := [.lit (.bool true)], args := [d1, d2, d3] }
  | _ => none }
def fnExactIsSplitRow : OpenClaim := { program := "ytfpglglolhlegaa", sum := "e377810ee9bc254ceebfedaab30f052fac7289858e2bee02de7787d51ffb0662", func := "loop.example/g00924/laws.FnExactIsSplit", spec := "fnExactIsSplit", unfollowed := true, recurses := true, apart := false }
def FnExactIsSplitSaid : Prop := fnExactIsSplitRow.holds Try.pinned (OpenSpec.ofChange fnExactIsSplitSpec)

/-- ITS FALSE NEIGHBOUR: 'it returns false'. Refute it at one input. -/
def fnExactIsSplitWrong : ChangeSpec := { name := "fnExactIsSplit", fn := fun _ => fun
  | [d1, d2, d3] => { results := [.lit (.bool false)], args := [d1, d2, d3] }
  | _ => none }
def FnExactIsSplitWrongFalsely : Prop := fnExactIsSplitRow.holds Try.pinned (OpenSpec.ofChange fnExactIsSplitWrong)

/-- 'laws.FnExactGreedySplit': WHATEVER THE INPUT: true; the input reads as it did. -/
def fnExactGreedySplitSpec : ChangeSpec := { name := "fnExactGreedySplit", fn := fun _ => fun
  | [d1, d2] => { results := [.lit (.bool true)], args := [d1, d2] }
  | _ => none }
def fnExactGreedySplitRow : OpenClaim := { program := "ytfpglglolhlegaa", sum := "e377810ee9bc254ceebfedaab30f052fac7289858e2bee02de7787d51ffb0662", func := "loop.example/g00924/laws.FnExactGreedySplit", spec := "fnExactGreedySplit", unfollowed := true, recurses := true, apart := false }
def FnExactGreedySplitSaid : Prop := fnExactGreedySplitRow.holds Try.pinned (OpenSpec.ofChange fnExactGreedySplitSpec)

/-- ITS FALSE NEIGHBOUR: 'it returns false'. Refute it at one input. -/
def fnExactGreedySplitWrong : ChangeSpec := { name := "fnExactGreedySplit", fn := fun _ => fun
  | [d1, d2] => { results := [.lit (.bool false)], args := [d1, d2] }
  | _ => none }
def FnExactGreedySplitWrongFalsely : Prop := fnExactGreedySplitRow.holds Try.pinned (OpenSpec.ofChange fnExactGreedySplitWrong)

/-- 'laws.FnExactRunsOf': WHATEVER THE INPUT: true; the input reads as it did. -/
def fnExactRunsOfSpec : ChangeSpec := { name := "fnExactRunsOf", fn := fun _ => fun
  | [d1, d2, d3] => { results := [.lit (.bool true)], args := [d1, d2, d3] }
  | _ => none }
def fnExactRunsOfRow : OpenClaim := { program := "ytfpglglolhlegaa", sum := "e377810ee9bc254ceebfedaab30f052fac7289858e2bee02de7787d51ffb0662", func := "loop.example/g00924/laws.FnExactRunsOf", spec := "fnExactRunsOf", unfollowed := true, recurses := true, apart := false }
def FnExactRunsOfSaid : Prop := fnExactRunsOfRow.holds Try.pinned (OpenSpec.ofChange fnExactRunsOfSpec)

/-- ITS FALSE NEIGHBOUR: 'it returns false'. Refute it at one input. -/
def fnExactRunsOfWrong : ChangeSpec := { name := "fnExactRunsOf", fn := fun _ => fun
  | [d1, d2, d3] => { results := [.lit (.bool false)], args := [d1, d2, d3] }
  | _ => none }
def FnExactRunsOfWrongFalsely : Prop := fnExactRunsOfRow.holds Try.pinned (OpenSpec.ofChange fnExactRunsOfWrong)

/-- 'laws.FnExactSlacksOf': WHATEVER THE INPUT: true; the input reads as it did. -/
def fnExactSlacksOfSpec : ChangeSpec := { name := "fnExactSlacksOf", fn := fun _ => fun
  | [d1, d2, d3] => { results := [.lit (.bool true)], args := [d1, d2, d3] }
  | _ => none }
def fnExactSlacksOfRow : OpenClaim := { program := "ytfpglglolhlegaa", sum := "e377810ee9bc254ceebfedaab30f052fac7289858e2bee02de7787d51ffb0662", func := "loop.example/g00924/laws.FnExactSlacksOf", spec := "fnExactSlacksOf", unfollowed := true, recurses := true, apart := false }
def FnExactSlacksOfSaid : Prop := fnExactSlacksOfRow.holds Try.pinned (OpenSpec.ofChange fnExactSlacksOfSpec)

/-- ITS FALSE NEIGHBOUR: 'it returns false'. Refute it at one input. -/
def fnExactSlacksOfWrong : ChangeSpec := { name := "fnExactSlacksOf", fn := fun _ => fun
  | [d1, d2, d3] => { results := [.lit (.bool false)], args := [d1, d2, d3] }
  | _ => none }
def FnExactSlacksOfWrongFalsely : Prop := fnExactSlacksOfRow.holds Try.pinned (OpenSpec.ofChange fnExactSlacksOfWrong)

/-- 'laws.FnExactEvenSplit': WHATEVER THE INPUT: true; the input reads as it did. -/
def fnExactEvenSplitSpec : ChangeSpec := { name := "fnExactEvenSplit", fn := fun _ => fun
  | [d1, d2] => { results := [.lit (.bool true)], args := [d1, d2] }
  | _ => none }
def fnExactEvenSplitRow : OpenClaim := { program := "ytfpglglolhlegaa", sum := "e377810ee9bc254ceebfedaab30f052fac7289858e2bee02de7787d51ffb0662", func := "loop.example/g00924/laws.FnExactEvenSplit", spec := "fnExactEvenSplit", unfollowed := true, recurses := true, apart := false }
def FnExactEvenSplitSaid : Prop := fnExactEvenSplitRow.holds Try.pinned (OpenSpec.ofChange fnExactEvenSplitSpec)

/-- ITS FALSE NEIGHBOUR: 'it returns false'. Refute it at one input. -/
def fnExactEvenSplitWrong : ChangeSpec := { name := "fnExactEvenSplit", fn := fun _ => fun
  | [d1, d2] => { results := [.lit (.bool false)], args := [d1, d2] }
  | _ => none }
def FnExactEvenSplitWrongFalsely : Prop := fnExactEvenSplitRow.holds Try.pinned (OpenSpec.ofChange fnExactEvenSplitWrong)

/-- 'laws.FnBarges': WHATEVER THE INPUT: true; the input reads as it did. -/
def fnBargesSpec : ChangeSpec := { name := "fnBarges", fn := fun _ => fun
  | [d] => { results := [.lit (.bool true)], args := [d] }
  | _ => none }
def fnBargesRow : OpenClaim := { program := "ytfpglglolhlegaa", sum := "e377810ee9bc254ceebfedaab30f052fac7289858e2bee02de7787d51ffb0662", func := "loop.example/g00924/laws.FnBarges", spec := "fnBarges", unfollowed := true, recurses := true, apart := false }
def FnBargesSaid : Prop := fnBargesRow.holds Try.pinned (OpenSpec.ofChange fnBargesSpec)

/-- ITS FALSE NEIGHBOUR: 'it returns false'. Refute it at one input. -/
def fnBargesWrong : ChangeSpec := { name := "fnBarges", fn := fun _ => fun
  | [d] => { results := [.lit (.bool false)], args := [d] }
  | _ => none }
def FnBargesWrongFalsely : Prop := fnBargesRow.holds Try.pinned (OpenSpec.ofChange fnBargesWrong)

/- THE SECOND FORM. 'bulk': how many values and letters a reading holds, each counted each time it is reached (what is shared counts as often as it is met; a slice's spare places count too). A statement '..UptoSaid' is the law's where the arguments, and the package variables that the reading takes, are together of bulk at most 1048576: NARROWER than '..Said'. Prove '..Said' where nothing that the law and all that it calls make is longer than what came in: it says more and counts as full. Else prove '..UptoSaid'. A law counts once. -/
mutual
def uptoBulk {H : Type} : DataW H → Nat
  | .lit (.string bytes) => bytes.length + 1
  | .lit _ => 1
  | .nil => 1
  | .ptr d => uptoBulk d + 1
  | .slice elems spare => uptoBulkAll elems + uptoBulkAll spare + 1
  | .agg parts => uptoBulkAll parts + 1
  | .iface _ d => uptoBulk d + 1
  | .map entries => uptoBulkEntries entries + 1
  | .held _ => 1
def uptoBulkAll {H : Type} : List (DataW H) → Nat
  | [] => 0
  | d :: r => uptoBulk d + uptoBulkAll r
def uptoBulkEntries {H : Type} : List (Lit × DataW H) → Nat
  | [] => 0
  | x :: r => uptoBulkEntry x + uptoBulkEntries r
def uptoBulkEntry {H : Type} : Lit × DataW H → Nat
  | (.string bytes, d) => bytes.length + uptoBulk d + 1
  | (_, d) => uptoBulk d + 1
 end
def uptoSmall : (H : Type) → List (DataW H) → Bool := fun _ ds => decide (uptoBulkAll ds ≤ 1048576)
def OpenSpec.upto (s : _root_.Go.ChangeSpec) : _root_.Go.OpenSpec := { _root_.Go.OpenSpec.ofChange s with cond := some uptoSmall }

/-- 'laws.FnExactIsValidConvoy', WHERE WHAT IT READS IS OF BULK AT MOST 1048576: true; the input reads as it did. -/
def fnExactIsValidConvoyUptoRow : OpenClaim := { program := "ytfpglglolhlegaa", sum := "e377810ee9bc254ceebfedaab30f052fac7289858e2bee02de7787d51ffb0662", func := "loop.example/g00924/laws.FnExactIsValidConvoy", spec := "fnExactIsValidConvoy", unfollowed := true, recurses := true, apart := false, narrowed := true }
def FnExactIsValidConvoyUptoSaid : Prop := fnExactIsValidConvoyUptoRow.holds Try.pinned (OpenSpec.upto fnExactIsValidConvoySpec)

/-- 'laws.FnExactConvoyLength', WHERE WHAT IT READS IS OF BULK AT MOST 1048576: true; the input reads as it did. -/
def fnExactConvoyLengthUptoRow : OpenClaim := { program := "ytfpglglolhlegaa", sum := "e377810ee9bc254ceebfedaab30f052fac7289858e2bee02de7787d51ffb0662", func := "loop.example/g00924/laws.FnExactConvoyLength", spec := "fnExactConvoyLength", unfollowed := true, recurses := true, apart := false, narrowed := true }
def FnExactConvoyLengthUptoSaid : Prop := fnExactConvoyLengthUptoRow.holds Try.pinned (OpenSpec.upto fnExactConvoyLengthSpec)

/-- 'laws.FnConvoys', WHERE WHAT IT READS IS OF BULK AT MOST 1048576: true; the input reads as it did. -/
def fnConvoysUptoRow : OpenClaim := { program := "ytfpglglolhlegaa", sum := "e377810ee9bc254ceebfedaab30f052fac7289858e2bee02de7787d51ffb0662", func := "loop.example/g00924/laws.FnConvoys", spec := "fnConvoys", unfollowed := true, recurses := true, apart := false, narrowed := true }
def FnConvoysUptoSaid : Prop := fnConvoysUptoRow.holds Try.pinned (OpenSpec.upto fnConvoysSpec)

/-- 'laws.FnExactJoinConvoys', WHERE WHAT IT READS IS OF BULK AT MOST 1048576: true; the input reads as it did. -/
def fnExactJoinConvoysUptoRow : OpenClaim := { program := "ytfpglglolhlegaa", sum := "e377810ee9bc254ceebfedaab30f052fac7289858e2bee02de7787d51ffb0662", func := "loop.example/g00924/laws.FnExactJoinConvoys", spec := "fnExactJoinConvoys", unfollowed := true, recurses := true, apart := false, narrowed := true }
def FnExactJoinConvoysUptoSaid : Prop := fnExactJoinConvoysUptoRow.holds Try.pinned (OpenSpec.upto fnExactJoinConvoysSpec)

/-- 'laws.FnExactLeaveBarges', WHERE WHAT IT READS IS OF BULK AT MOST 1048576: true; the input reads as it did. -/
def fnExactLeaveBargesUptoRow : OpenClaim := { program := "ytfpglglolhlegaa", sum := "e377810ee9bc254ceebfedaab30f052fac7289858e2bee02de7787d51ffb0662", func := "loop.example/g00924/laws.FnExactLeaveBarges", spec := "fnExactLeaveBarges", unfollowed := true, recurses := true, apart := false, narrowed := true }
def FnExactLeaveBargesUptoSaid : Prop := fnExactLeaveBargesUptoRow.holds Try.pinned (OpenSpec.upto fnExactLeaveBargesSpec)

/-- 'laws.FnExactShortestChamber', WHERE WHAT IT READS IS OF BULK AT MOST 1048576: true; the input reads as it did. -/
def fnExactShortestChamberUptoRow : OpenClaim := { program := "ytfpglglolhlegaa", sum := "e377810ee9bc254ceebfedaab30f052fac7289858e2bee02de7787d51ffb0662", func := "loop.example/g00924/laws.FnExactShortestChamber", spec := "fnExactShortestChamber", unfollowed := true, recurses := true, apart := false, narrowed := true }
def FnExactShortestChamberUptoSaid : Prop := fnExactShortestChamberUptoRow.holds Try.pinned (OpenSpec.upto fnExactShortestChamberSpec)

/-- 'laws.FnExactIsSplit', WHERE WHAT IT READS IS OF BULK AT MOST 1048576: true; the input reads as it did. -/
def fnExactIsSplitUptoRow : OpenClaim := { program := "ytfpglglolhlegaa", sum := "e377810ee9bc254ceebfedaab30f052fac7289858e2bee02de7787d51ffb0662", func := "loop.example/g00924/laws.FnExactIsSplit", spec := "fnExactIsSplit", unfollowed := true, recurses := true, apart := false, narrowed := true }
def FnExactIsSplitUptoSaid : Prop := fnExactIsSplitUptoRow.holds Try.pinned (OpenSpec.upto fnExactIsSplitSpec)

/-- 'laws.FnExactGreedySplit', WHERE WHAT IT READS IS OF BULK AT MOST 1048576: true; the input reads as it did. -/
def fnExactGreedySplitUptoRow : OpenClaim := { program := "ytfpglglolhlegaa", sum := "e377810ee9bc254ceebfedaab30f052fac7289858e2bee02de7787d51ffb0662", func := "loop.example/g00924/laws.FnExactGreedySplit", spec := "fnExactGreedySplit", unfollowed := true, recurses := true, apart := false, narrowed := true }
def FnExactGreedySplitUptoSaid : Prop := fnExactGreedySplitUptoRow.holds Try.pinned (OpenSpec.upto fnExactGreedySplitSpec)

/-- 'laws.FnExactRunsOf', WHERE WHAT IT READS IS OF BULK AT MOST 1048576: true; the input reads as it did. -/
def fnExactRunsOfUptoRow : OpenClaim := { program := "ytfpglglolhlegaa", sum := "e377810ee9bc254ceebfedaab30f052fac7289858e2bee02de7787d51ffb0662", func := "loop.example/g00924/laws.FnExactRunsOf", spec := "fnExactRunsOf", unfollowed := true, recurses := true, apart := false, narrowed := true }
def FnExactRunsOfUptoSaid : Prop := fnExactRunsOfUptoRow.holds Try.pinned (OpenSpec.upto fnExactRunsOfSpec)

/-- 'laws.FnExactSlacksOf', WHERE WHAT IT READS IS OF BULK AT MOST 1048576: true; the input reads as it did. -/
def fnExactSlacksOfUptoRow : OpenClaim := { program := "ytfpglglolhlegaa", sum := "e377810ee9bc254ceebfedaab30f052fac7289858e2bee02de7787d51ffb0662", func := "loop.example/g00924/laws.FnExactSlacksOf", spec := "fnExactSlacksOf", unfollowed := true, recurses := true, apart := false, narrowed := true }
def FnExactSlacksOfUptoSaid : Prop := fnExactSlacksOfUptoRow.holds Try.pinned (OpenSpec.upto fnExactSlacksOfSpec)

/-- 'laws.FnExactEvenSplit', WHERE WHAT IT READS IS OF BULK AT MOST 1048576: true; the input reads as it did. -/
def fnExactEvenSplitUptoRow : OpenClaim := { program := "ytfpglglolhlegaa", sum := "e377810ee9bc254ceebfedaab30f052fac7289858e2bee02de7787d51ffb0662", func := "loop.example/g00924/laws.FnExactEvenSplit", spec := "fnExactEvenSplit", unfollowed := true, recurses := true, apart := false, narrowed := true }
def FnExactEvenSplitUptoSaid : Prop := fnExactEvenSplitUptoRow.holds Try.pinned (OpenSpec.upto fnExactEvenSplitSpec)

/-- 'laws.FnBarges', WHERE WHAT IT READS IS OF BULK AT MOST 1048576: true; the input reads as it did. -/
def fnBargesUptoRow : OpenClaim := { program := "ytfpglglolhlegaa", sum := "e377810ee9bc254ceebfedaab30f052fac7289858e2bee02de7787d51ffb0662", func := "loop.example/g00924/laws.FnBarges", spec := "fnBarges", unfollowed := true, recurses := true, apart := false, narrowed := true }
def FnBargesUptoSaid : Prop := fnBargesUptoRow.holds Try.pinned (OpenSpec.upto fnBargesSpec)

end Rows
end Go.Proofs.Ytfpglglolhlegaa
