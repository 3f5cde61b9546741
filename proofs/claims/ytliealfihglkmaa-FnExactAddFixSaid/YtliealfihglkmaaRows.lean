/-
  No cell of these rows narrows 'for every input' (looked for: loops, veiled, ifaces, maps, wideKeys, modest, calm, conditions, laid).
  DERIVED. THE GIVEN ROWS OF THIS SEAT. 11 by the template 'for every input the law returns true; each argument reads behind the call as it read before'; 0 by the template 'total and deterministic' (their statements: YtliealfihglkmaaTotals.lean).
  GIVEN WITH THE SEED: the statements are not yours to turn. If you find one false, say at which input.
  Laid BY PROGRAM, IN A SANDBOX (cutbox-rows.mjs): the forced cells as the released guide's own fill.sh prints them over the translation 7a2b20d9287d0358… (all of the seat's roots in one cut). By AI agents, Wed Nov 11 2026. No macro, syntax, notation, axiom, sorry.
-/
import Derived.Test.YtliealfihglkmaaChecked
import GoSem.Claim
import GoSem.ClaimJoined
import GoSem.ClaimMapViews
import Derived.JoinedTies
import Derived.KernelRfl
namespace Go.Proofs.Ytliealfihglkmaa
/- THE CELL 'sum', in the pinned program and in every row, IS THE sha256 OF THE DUMP (.gsa) THAT YtliealfihglkmaaProg.lean LOADS. Nothing in Lean hashes anything: it is a label: what it is worth is what the hold of that sum in a sandbox is worth. -/
noncomputable def Try.pinned : Pinned := { name := "ytliealfihglkmaa", sum := "7a2b20d9287d0358aa211761f24fad4d6403928f9b6993304b33ea7dc7d910a0", checked := Try.checked }
namespace Rows
def none {H : Type} : Left H := { results := [], args := [] }

/-- 'laws.FnExactAreFixes': WHATEVER THE INPUT: true; the input reads as it did. -/
def fnExactAreFixesSpec : ChangeSpec := { name := "fnExactAreFixes", fn := fun _ => fun
  | [d] => { results := [.lit (.bool true)], args := [d] }
  | _ => none }
def fnExactAreFixesRow : OpenClaim := { program := "ytliealfihglkmaa", sum := "7a2b20d9287d0358aa211761f24fad4d6403928f9b6993304b33ea7dc7d910a0", func := "loop.example/g00924/laws.FnExactAreFixes", spec := "fnExactAreFixes", apart := false }
def FnExactAreFixesSaid : Prop := fnExactAreFixesRow.holds Try.pinned (OpenSpec.ofChange fnExactAreFixesSpec)

/-- ITS FALSE NEIGHBOUR: 'it returns false'. Refute it at one input. -/
def fnExactAreFixesWrong : ChangeSpec := { name := "fnExactAreFixes", fn := fun _ => fun
  | [d] => { results := [.lit (.bool false)], args := [d] }
  | _ => none }
def FnExactAreFixesWrongFalsely : Prop := fnExactAreFixesRow.holds Try.pinned (OpenSpec.ofChange fnExactAreFixesWrong)

/-- 'laws.FnExactAreConsistent': WHATEVER THE INPUT: true; the input reads as it did. -/
def fnExactAreConsistentSpec : ChangeSpec := { name := "fnExactAreConsistent", fn := fun _ => fun
  | [d1, d2] => { results := [.lit (.bool true)], args := [d1, d2] }
  | _ => none }
def fnExactAreConsistentRow : OpenClaim := { program := "ytliealfihglkmaa", sum := "7a2b20d9287d0358aa211761f24fad4d6403928f9b6993304b33ea7dc7d910a0", func := "loop.example/g00924/laws.FnExactAreConsistent", spec := "fnExactAreConsistent", apart := false }
def FnExactAreConsistentSaid : Prop := fnExactAreConsistentRow.holds Try.pinned (OpenSpec.ofChange fnExactAreConsistentSpec)

/-- ITS FALSE NEIGHBOUR: 'it returns false'. Refute it at one input. -/
def fnExactAreConsistentWrong : ChangeSpec := { name := "fnExactAreConsistent", fn := fun _ => fun
  | [d1, d2] => { results := [.lit (.bool false)], args := [d1, d2] }
  | _ => none }
def FnExactAreConsistentWrongFalsely : Prop := fnExactAreConsistentRow.holds Try.pinned (OpenSpec.ofChange fnExactAreConsistentWrong)

/-- 'laws.FnExactSlowestPace': WHATEVER THE INPUT: true; the input reads as it did. -/
def fnExactSlowestPaceSpec : ChangeSpec := { name := "fnExactSlowestPace", fn := fun _ => fun
  | [d] => { results := [.lit (.bool true)], args := [d] }
  | _ => none }
def fnExactSlowestPaceRow : OpenClaim := { program := "ytliealfihglkmaa", sum := "7a2b20d9287d0358aa211761f24fad4d6403928f9b6993304b33ea7dc7d910a0", func := "loop.example/g00924/laws.FnExactSlowestPace", spec := "fnExactSlowestPace", apart := false }
def FnExactSlowestPaceSaid : Prop := fnExactSlowestPaceRow.holds Try.pinned (OpenSpec.ofChange fnExactSlowestPaceSpec)

/-- ITS FALSE NEIGHBOUR: 'it returns false'. Refute it at one input. -/
def fnExactSlowestPaceWrong : ChangeSpec := { name := "fnExactSlowestPace", fn := fun _ => fun
  | [d] => { results := [.lit (.bool false)], args := [d] }
  | _ => none }
def FnExactSlowestPaceWrongFalsely : Prop := fnExactSlowestPaceRow.holds Try.pinned (OpenSpec.ofChange fnExactSlowestPaceWrong)

/-- 'laws.FnExactMayBeAt': WHATEVER THE INPUT: true; the input reads as it did. -/
def fnExactMayBeAtSpec : ChangeSpec := { name := "fnExactMayBeAt", fn := fun _ => fun
  | [d1, d2, d3, d4] => { results := [.lit (.bool true)], args := [d1, d2, d3, d4] }
  | _ => none }
def fnExactMayBeAtRow : OpenClaim := { program := "ytliealfihglkmaa", sum := "7a2b20d9287d0358aa211761f24fad4d6403928f9b6993304b33ea7dc7d910a0", func := "loop.example/g00924/laws.FnExactMayBeAt", spec := "fnExactMayBeAt", apart := false }
def FnExactMayBeAtSaid : Prop := fnExactMayBeAtRow.holds Try.pinned (OpenSpec.ofChange fnExactMayBeAtSpec)

/-- ITS FALSE NEIGHBOUR: 'it returns false'. Refute it at one input. -/
def fnExactMayBeAtWrong : ChangeSpec := { name := "fnExactMayBeAt", fn := fun _ => fun
  | [d1, d2, d3, d4] => { results := [.lit (.bool false)], args := [d1, d2, d3, d4] }
  | _ => none }
def FnExactMayBeAtWrongFalsely : Prop := fnExactMayBeAtRow.holds Try.pinned (OpenSpec.ofChange fnExactMayBeAtWrong)

/-- 'laws.FnExactSpanAt': WHATEVER THE INPUT: true; the input reads as it did. -/
def fnExactSpanAtSpec : ChangeSpec := { name := "fnExactSpanAt", fn := fun _ => fun
  | [d1, d2, d3] => { results := [.lit (.bool true)], args := [d1, d2, d3] }
  | _ => none }
def fnExactSpanAtRow : OpenClaim := { program := "ytliealfihglkmaa", sum := "7a2b20d9287d0358aa211761f24fad4d6403928f9b6993304b33ea7dc7d910a0", func := "loop.example/g00924/laws.FnExactSpanAt", spec := "fnExactSpanAt", apart := false }
def FnExactSpanAtSaid : Prop := fnExactSpanAtRow.holds Try.pinned (OpenSpec.ofChange fnExactSpanAtSpec)

/-- ITS FALSE NEIGHBOUR: 'it returns false'. Refute it at one input. -/
def fnExactSpanAtWrong : ChangeSpec := { name := "fnExactSpanAt", fn := fun _ => fun
  | [d1, d2, d3] => { results := [.lit (.bool false)], args := [d1, d2, d3] }
  | _ => none }
def FnExactSpanAtWrongFalsely : Prop := fnExactSpanAtRow.holds Try.pinned (OpenSpec.ofChange fnExactSpanAtWrong)

/-- 'laws.FnExactOddFix': WHATEVER THE INPUT: true; the input reads as it did. -/
def fnExactOddFixSpec : ChangeSpec := { name := "fnExactOddFix", fn := fun _ => fun
  | [d1, d2] => { results := [.lit (.bool true)], args := [d1, d2] }
  | _ => none }
def fnExactOddFixRow : OpenClaim := { program := "ytliealfihglkmaa", sum := "7a2b20d9287d0358aa211761f24fad4d6403928f9b6993304b33ea7dc7d910a0", func := "loop.example/g00924/laws.FnExactOddFix", spec := "fnExactOddFix", apart := false }
def FnExactOddFixSaid : Prop := fnExactOddFixRow.holds Try.pinned (OpenSpec.ofChange fnExactOddFixSpec)

/-- ITS FALSE NEIGHBOUR: 'it returns false'. Refute it at one input. -/
def fnExactOddFixWrong : ChangeSpec := { name := "fnExactOddFix", fn := fun _ => fun
  | [d1, d2] => { results := [.lit (.bool false)], args := [d1, d2] }
  | _ => none }
def FnExactOddFixWrongFalsely : Prop := fnExactOddFixRow.holds Try.pinned (OpenSpec.ofChange fnExactOddFixWrong)

/-- 'laws.FnExactMayMeet': WHATEVER THE INPUT: true; the input reads as it did. -/
def fnExactMayMeetSpec : ChangeSpec := { name := "fnExactMayMeet", fn := fun _ => fun
  | [d1, d2, d3, d4] => { results := [.lit (.bool true)], args := [d1, d2, d3, d4] }
  | _ => none }
def fnExactMayMeetRow : OpenClaim := { program := "ytliealfihglkmaa", sum := "7a2b20d9287d0358aa211761f24fad4d6403928f9b6993304b33ea7dc7d910a0", func := "loop.example/g00924/laws.FnExactMayMeet", spec := "fnExactMayMeet", apart := false }
def FnExactMayMeetSaid : Prop := fnExactMayMeetRow.holds Try.pinned (OpenSpec.ofChange fnExactMayMeetSpec)

/-- ITS FALSE NEIGHBOUR: 'it returns false'. Refute it at one input. -/
def fnExactMayMeetWrong : ChangeSpec := { name := "fnExactMayMeet", fn := fun _ => fun
  | [d1, d2, d3, d4] => { results := [.lit (.bool false)], args := [d1, d2, d3, d4] }
  | _ => none }
def FnExactMayMeetWrongFalsely : Prop := fnExactMayMeetRow.holds Try.pinned (OpenSpec.ofChange fnExactMayMeetWrong)

/-- 'laws.FnExactAddFix': WHATEVER THE INPUT: true; the input reads as it did. -/
def fnExactAddFixSpec : ChangeSpec := { name := "fnExactAddFix", fn := fun _ => fun
  | [d1, d2, d3] => { results := [.lit (.bool true)], args := [d1, d2, d3] }
  | _ => none }
def fnExactAddFixRow : OpenClaim := { program := "ytliealfihglkmaa", sum := "7a2b20d9287d0358aa211761f24fad4d6403928f9b6993304b33ea7dc7d910a0", func := "loop.example/g00924/laws.FnExactAddFix", spec := "fnExactAddFix", apart := false }
def FnExactAddFixSaid : Prop := fnExactAddFixRow.holds Try.pinned (OpenSpec.ofChange fnExactAddFixSpec)

/-- ITS FALSE NEIGHBOUR: 'it returns false'. Refute it at one input. -/
def fnExactAddFixWrong : ChangeSpec := { name := "fnExactAddFix", fn := fun _ => fun
  | [d1, d2, d3] => { results := [.lit (.bool false)], args := [d1, d2, d3] }
  | _ => none }
def FnExactAddFixWrongFalsely : Prop := fnExactAddFixRow.holds Try.pinned (OpenSpec.ofChange fnExactAddFixWrong)

/-- 'laws.FnExactPassingMinutes': WHATEVER THE INPUT: true; the input reads as it did. -/
def fnExactPassingMinutesSpec : ChangeSpec := { name := "fnExactPassingMinutes", fn := fun _ => fun
  | [d1, d2, d3] => { results := [.lit (.bool true)], args := [d1, d2, d3] }
  | _ => none }
def fnExactPassingMinutesRow : OpenClaim := { program := "ytliealfihglkmaa", sum := "7a2b20d9287d0358aa211761f24fad4d6403928f9b6993304b33ea7dc7d910a0", func := "loop.example/g00924/laws.FnExactPassingMinutes", spec := "fnExactPassingMinutes", apart := false }
def FnExactPassingMinutesSaid : Prop := fnExactPassingMinutesRow.holds Try.pinned (OpenSpec.ofChange fnExactPassingMinutesSpec)

/-- ITS FALSE NEIGHBOUR: 'it returns false'. Refute it at one input. -/
def fnExactPassingMinutesWrong : ChangeSpec := { name := "fnExactPassingMinutes", fn := fun _ => fun
  | [d1, d2, d3] => { results := [.lit (.bool false)], args := [d1, d2, d3] }
  | _ => none }
def FnExactPassingMinutesWrongFalsely : Prop := fnExactPassingMinutesRow.holds Try.pinned (OpenSpec.ofChange fnExactPassingMinutesWrong)

/-- 'laws.FnSpans': WHATEVER THE INPUT: true; the input reads as it did. -/
def fnSpansSpec : ChangeSpec := { name := "fnSpans", fn := fun _ => fun
  | [d] => { results := [.lit (.bool true)], args := [d] }
  | _ => none }
def fnSpansRow : OpenClaim := { program := "ytliealfihglkmaa", sum := "7a2b20d9287d0358aa211761f24fad4d6403928f9b6993304b33ea7dc7d910a0", func := "loop.example/g00924/laws.FnSpans", spec := "fnSpans", apart := false }
def FnSpansSaid : Prop := fnSpansRow.holds Try.pinned (OpenSpec.ofChange fnSpansSpec)

/-- ITS FALSE NEIGHBOUR: 'it returns false'. Refute it at one input. -/
def fnSpansWrong : ChangeSpec := { name := "fnSpans", fn := fun _ => fun
  | [d] => { results := [.lit (.bool false)], args := [d] }
  | _ => none }
def FnSpansWrongFalsely : Prop := fnSpansRow.holds Try.pinned (OpenSpec.ofChange fnSpansWrong)

/-- 'laws.FnFixes': WHATEVER THE INPUT: true; the input reads as it did. -/
def fnFixesSpec : ChangeSpec := { name := "fnFixes", fn := fun _ => fun
  | [d] => { results := [.lit (.bool true)], args := [d] }
  | _ => none }
def fnFixesRow : OpenClaim := { program := "ytliealfihglkmaa", sum := "7a2b20d9287d0358aa211761f24fad4d6403928f9b6993304b33ea7dc7d910a0", func := "loop.example/g00924/laws.FnFixes", spec := "fnFixes", apart := false }
def FnFixesSaid : Prop := fnFixesRow.holds Try.pinned (OpenSpec.ofChange fnFixesSpec)

/-- ITS FALSE NEIGHBOUR: 'it returns false'. Refute it at one input. -/
def fnFixesWrong : ChangeSpec := { name := "fnFixes", fn := fun _ => fun
  | [d] => { results := [.lit (.bool false)], args := [d] }
  | _ => none }
def FnFixesWrongFalsely : Prop := fnFixesRow.holds Try.pinned (OpenSpec.ofChange fnFixesWrong)

/- THE SECOND FORM. 'bulk': how many values and letters a reading holds, each counted each time it is reached (what is shared counts as often as it is met; a slice's spare places count too). A statement '..UptoSaid' is the law's where the arguments, and the package variables that the reading takes, are together of bulk at most 1048576: NARROWER than '..Said'. Prove '..Said' where nothing that the law and all that it calls make is longer than what came in: it says more and counts as full. Else prove '..UptoSaid'. A law counts once. -/
mutual
def uptoBulk {H : Type} : DataW H → Nat
  | .lit (.string bytes) => bytes.length + 1
  | .lit _ => 1
  | .nil => 1
  | .ptr d => uptoBulk d + 1
  | .slice elems spare => uptoBulkAll elems + uptoBulkAll spare + 1
  | .agg parts => uptoBulkAll parts + 1
  | .iface _ d => uptoBulk d + 1
  | .map entries => uptoBulkEntries entries + 1
  | .held _ => 1
def uptoBulkAll {H : Type} : List (DataW H) → Nat
  | [] => 0
  | d :: r => uptoBulk d + uptoBulkAll r
def uptoBulkEntries {H : Type} : List (Lit × DataW H) → Nat
  | [] => 0
  | x :: r => uptoBulkEntry x + uptoBulkEntries r
def uptoBulkEntry {H : Type} : Lit × DataW H → Nat
  | (.string bytes, d) => bytes.length + uptoBulk d + 1
  | (_, d) => uptoBulk d + 1
 end
def uptoSmall : (H : Type) → List (DataW H) → Bool := fun _ ds => decide (uptoBulkAll ds ≤ 1048576)
def OpenSpec.upto (s : _root_.Go.ChangeSpec) : _root_.Go.OpenSpec := { _root_.Go.OpenSpec.ofChange s with cond := some uptoSmall }

/-- 'laws.FnExactAreFixes', WHERE WHAT IT READS IS OF BULK AT MOST 1048576: true; the input reads as it did. -/
def fnExactAreFixesUptoRow : OpenClaim := { program := "ytliealfihglkmaa", sum := "7a2b20d9287d0358aa211761f24fad4d6403928f9b6993304b33ea7dc7d910a0", func := "loop.example/g00924/laws.FnExactAreFixes", spec := "fnExactAreFixes", apart := false, narrowed := true }
def FnExactAreFixesUptoSaid : Prop := fnExactAreFixesUptoRow.holds Try.pinned (OpenSpec.upto fnExactAreFixesSpec)

/-- 'laws.FnExactAreConsistent', WHERE WHAT IT READS IS OF BULK AT MOST 1048576: true; the input reads as it did. -/
def fnExactAreConsistentUptoRow : OpenClaim := { program := "ytliealfihglkmaa", sum := "7a2b20d9287d0358aa211761f24fad4d6403928f9b6993304b33ea7dc7d910a0", func := "loop.example/g00924/laws.FnExactAreConsistent", spec := "fnExactAreConsistent", apart := false, narrowed := true }
def FnExactAreConsistentUptoSaid : Prop := fnExactAreConsistentUptoRow.holds Try.pinned (OpenSpec.upto fnExactAreConsistentSpec)

/-- 'laws.FnExactSlowestPace', WHERE WHAT IT READS IS OF BULK AT MOST 1048576: true; the input reads as it did. -/
def fnExactSlowestPaceUptoRow : OpenClaim := { program := "ytliealfihglkmaa", sum := "7a2b20d9287d0358aa211761f24fad4d6403928f9b6993304b33ea7dc7d910a0", func := "loop.example/g00924/laws.FnExactSlowestPace", spec := "fnExactSlowestPace", apart := false, narrowed := true }
def FnExactSlowestPaceUptoSaid : Prop := fnExactSlowestPaceUptoRow.holds Try.pinned (OpenSpec.upto fnExactSlowestPaceSpec)

/-- 'laws.FnExactMayBeAt', WHERE WHAT IT READS IS OF BULK AT MOST 1048576: true; the input reads as it did. -/
def fnExactMayBeAtUptoRow : OpenClaim := { program := "ytliealfihglkmaa", sum := "7a2b20d9287d0358aa211761f24fad4d6403928f9b6993304b33ea7dc7d910a0", func := "loop.example/g00924/laws.FnExactMayBeAt", spec := "fnExactMayBeAt", apart := false, narrowed := true }
def FnExactMayBeAtUptoSaid : Prop := fnExactMayBeAtUptoRow.holds Try.pinned (OpenSpec.upto fnExactMayBeAtSpec)

/-- 'laws.FnExactSpanAt', WHERE WHAT IT READS IS OF BULK AT MOST 1048576: true; the input reads as it did. -/
def fnExactSpanAtUptoRow : OpenClaim := { program := "ytliealfihglkmaa", sum := "7a2b20d9287d0358aa211761f24fad4d6403928f9b6993304b33ea7dc7d910a0", func := "loop.example/g00924/laws.FnExactSpanAt", spec := "fnExactSpanAt", apart := false, narrowed := true }
def FnExactSpanAtUptoSaid : Prop := fnExactSpanAtUptoRow.holds Try.pinned (OpenSpec.upto fnExactSpanAtSpec)

/-- 'laws.FnExactOddFix', WHERE WHAT IT READS IS OF BULK AT MOST 1048576: true; the input reads as it did. -/
def fnExactOddFixUptoRow : OpenClaim := { program := "ytliealfihglkmaa", sum := "7a2b20d9287d0358aa211761f24fad4d6403928f9b6993304b33ea7dc7d910a0", func := "loop.example/g00924/laws.FnExactOddFix", spec := "fnExactOddFix", apart := false, narrowed := true }
def FnExactOddFixUptoSaid : Prop := fnExactOddFixUptoRow.holds Try.pinned (OpenSpec.upto fnExactOddFixSpec)

/-- 'laws.FnExactMayMeet', WHERE WHAT IT READS IS OF BULK AT MOST 1048576: true; the input reads as it did. -/
def fnExactMayMeetUptoRow : OpenClaim := { program := "ytliealfihglkmaa", sum := "7a2b20d9287d0358aa211761f24fad4d6403928f9b6993304b33ea7dc7d910a0", func := "loop.example/g00924/laws.FnExactMayMeet", spec := "fnExactMayMeet", apart := false, narrowed := true }
def FnExactMayMeetUptoSaid : Prop := fnExactMayMeetUptoRow.holds Try.pinned (OpenSpec.upto fnExactMayMeetSpec)

/-- 'laws.FnExactAddFix', WHERE WHAT IT READS IS OF BULK AT MOST 1048576: true; the input reads as it did. -/
def fnExactAddFixUptoRow : OpenClaim := { program := "ytliealfihglkmaa", sum := "7a2b20d9287d0358aa211761f24fad4d6403928f9b6993304b33ea7dc7d910a0", func := "loop.example/g00924/laws.FnExactAddFix", spec := "fnExactAddFix", apart := false, narrowed := true }
def FnExactAddFixUptoSaid : Prop := fnExactAddFixUptoRow.holds Try.pinned (OpenSpec.upto fnExactAddFixSpec)

/-- 'laws.FnExactPassingMinutes', WHERE WHAT IT READS IS OF BULK AT MOST 1048576: true; the input reads as it did. -/
def fnExactPassingMinutesUptoRow : OpenClaim := { program := "ytliealfihglkmaa", sum := "7a2b20d9287d0358aa211761f24fad4d6403928f9b6993304b33ea7dc7d910a0", func := "loop.example/g00924/laws.FnExactPassingMinutes", spec := "fnExactPassingMinutes", apart := false, narrowed := true }
def FnExactPassingMinutesUptoSaid : Prop := fnExactPassingMinutesUptoRow.holds Try.pinned (OpenSpec.upto fnExactPassingMinutesSpec)

/-- 'laws.FnSpans', WHERE WHAT IT READS IS OF BULK AT MOST 1048576: true; the input reads as it did. -/
def fnSpansUptoRow : OpenClaim := { program := "ytliealfihglkmaa", sum := "7a2b20d9287d0358aa211761f24fad4d6403928f9b6993304b33ea7dc7d910a0", func := "loop.example/g00924/laws.FnSpans", spec := "fnSpans", apart := false, narrowed := true }
def FnSpansUptoSaid : Prop := fnSpansUptoRow.holds Try.pinned (OpenSpec.upto fnSpansSpec)

/-- 'laws.FnFixes', WHERE WHAT IT READS IS OF BULK AT MOST 1048576: true; the input reads as it did. -/
def fnFixesUptoRow : OpenClaim := { program := "ytliealfihglkmaa", sum := "7a2b20d9287d0358aa211761f24fad4d6403928f9b6993304b33ea7dc7d910a0", func := "loop.example/g00924/laws.FnFixes", spec := "fnFixes", apart := false, narrowed := true }
def FnFixesUptoSaid : Prop := fnFixesUptoRow.holds Try.pinned (OpenSpec.upto fnFixesSpec)

end Rows
end Go.Proofs.Ytliealfihglkmaa
