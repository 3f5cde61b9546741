/-
  No cell of these rows narrows 'for every input' (looked for: loops, veiled, ifaces, maps, wideKeys, modest, calm, conditions, laid).
  DERIVED. THE GIVEN ROWS OF THIS SEAT. 8 by the template 'for every input the law returns true; each argument reads behind the call as it read before'; 0 by the template 'total and deterministic' (their statements: YtlpgcbkialcjcaaTotals.lean).
  GIVEN WITH THE SEED: the statements are not yours to turn. If you find one false, say at which input.
  Laid BY PROGRAM, IN A SANDBOX (cutbox-rows.mjs): the forced cells as the released guide's own fill.sh prints them over the translation 82871864e0299b05… (all of the seat's roots in one cut). By AI agents, Wed Nov 11 2026. No macro, syntax, notation, axiom, sorry.
-/
import Derived.Test.YtlpgcbkialcjcaaChecked
import GoSem.Claim
import GoSem.ClaimJoined
import GoSem.ClaimMapViews
import Derived.JoinedTies
import Derived.KernelRfl
namespace Go.Proofs.Ytlpgcbkialcjcaa
/- THE CELL 'sum', in the pinned program and in every row, IS THE sha256 OF THE DUMP (.gsa) THAT YtlpgcbkialcjcaaProg.lean LOADS. Nothing in Lean hashes anything: it is a label: what it is worth is what the hold of that sum in a sandbox is worth. -/
noncomputable def Try.pinned : Pinned := { name := "ytlpgcbkialcjcaa", sum := "82871864e0299b05cd9b621d0b786b995a5df7f12fb6710846f5bb4a073cc6fd", checked := Try.checked }
namespace Rows
def none {H : Type} : Left H := { results := [], args := [] }

/-- 'laws.FnExactIsEReport': WHATEVER THE INPUT: true; the input reads as it did. -/
def fnExactIsEReportSpec : ChangeSpec := { name := "fnExactIsEReport", fn := fun _ => fun
  | [d] => { results := [.lit (.bool true)], args := [d] }
  | _ => none }
def fnExactIsEReportRow : OpenClaim := { program := "ytlpgcbkialcjcaa", sum := "82871864e0299b05cd9b621d0b786b995a5df7f12fb6710846f5bb4a073cc6fd", func := "loop.example/g00924/laws.FnExactIsEReport", spec := "fnExactIsEReport", apart := false }
def FnExactIsEReportSaid : Prop := fnExactIsEReportRow.holds Try.pinned (OpenSpec.ofChange fnExactIsEReportSpec)

/-- ITS FALSE NEIGHBOUR: 'it returns false'. Refute it at one input. -/
def fnExactIsEReportWrong : ChangeSpec := { name := "fnExactIsEReport", fn := fun _ => fun
  | [d] => { results := [.lit (.bool false)], args := [d] }
  | _ => none }
def FnExactIsEReportWrongFalsely : Prop := fnExactIsEReportRow.holds Try.pinned (OpenSpec.ofChange fnExactIsEReportWrong)

/-- 'laws.FnExactIsFile': WHATEVER THE INPUT: true; the input reads as it did. -/
def fnExactIsFileSpec : ChangeSpec := { name := "fnExactIsFile", fn := fun _ => fun
  | [d] => { results := [.lit (.bool true)], args := [d] }
  | _ => none }
def fnExactIsFileRow : OpenClaim := { program := "ytlpgcbkialcjcaa", sum := "82871864e0299b05cd9b621d0b786b995a5df7f12fb6710846f5bb4a073cc6fd", func := "loop.example/g00924/laws.FnExactIsFile", spec := "fnExactIsFile", apart := false }
def FnExactIsFileSaid : Prop := fnExactIsFileRow.holds Try.pinned (OpenSpec.ofChange fnExactIsFileSpec)

/-- ITS FALSE NEIGHBOUR: 'it returns false'. Refute it at one input. -/
def fnExactIsFileWrong : ChangeSpec := { name := "fnExactIsFile", fn := fun _ => fun
  | [d] => { results := [.lit (.bool false)], args := [d] }
  | _ => none }
def FnExactIsFileWrongFalsely : Prop := fnExactIsFileRow.holds Try.pinned (OpenSpec.ofChange fnExactIsFileWrong)

/-- 'laws.FnExactLastReport': WHATEVER THE INPUT: true; the input reads as it did. -/
def fnExactLastReportSpec : ChangeSpec := { name := "fnExactLastReport", fn := fun _ => fun
  | [d1, d2] => { results := [.lit (.bool true)], args := [d1, d2] }
  | _ => none }
def fnExactLastReportRow : OpenClaim := { program := "ytlpgcbkialcjcaa", sum := "82871864e0299b05cd9b621d0b786b995a5df7f12fb6710846f5bb4a073cc6fd", func := "loop.example/g00924/laws.FnExactLastReport", spec := "fnExactLastReport", apart := false }
def FnExactLastReportSaid : Prop := fnExactLastReportRow.holds Try.pinned (OpenSpec.ofChange fnExactLastReportSpec)

/-- ITS FALSE NEIGHBOUR: 'it returns false'. Refute it at one input. -/
def fnExactLastReportWrong : ChangeSpec := { name := "fnExactLastReport", fn := fun _ => fun
  | [d1, d2] => { results := [.lit (.bool false)], args := [d1, d2] }
  | _ => none }
def FnExactLastReportWrongFalsely : Prop := fnExactLastReportRow.holds Try.pinned (OpenSpec.ofChange fnExactLastReportWrong)

/-- 'laws.FnExactUnderWay': WHATEVER THE INPUT: true; the input reads as it did. -/
def fnExactUnderWaySpec : ChangeSpec := { name := "fnExactUnderWay", fn := fun _ => fun
  | [d] => { results := [.lit (.bool true)], args := [d] }
  | _ => none }
def fnExactUnderWayRow : OpenClaim := { program := "ytlpgcbkialcjcaa", sum := "82871864e0299b05cd9b621d0b786b995a5df7f12fb6710846f5bb4a073cc6fd", func := "loop.example/g00924/laws.FnExactUnderWay", spec := "fnExactUnderWay", apart := false }
def FnExactUnderWaySaid : Prop := fnExactUnderWayRow.holds Try.pinned (OpenSpec.ofChange fnExactUnderWaySpec)

/-- ITS FALSE NEIGHBOUR: 'it returns false'. Refute it at one input. -/
def fnExactUnderWayWrong : ChangeSpec := { name := "fnExactUnderWay", fn := fun _ => fun
  | [d] => { results := [.lit (.bool false)], args := [d] }
  | _ => none }
def FnExactUnderWayWrongFalsely : Prop := fnExactUnderWayRow.holds Try.pinned (OpenSpec.ofChange fnExactUnderWayWrong)

/-- 'laws.FnExactForgetOld': WHATEVER THE INPUT: true; the input reads as it did. -/
def fnExactForgetOldSpec : ChangeSpec := { name := "fnExactForgetOld", fn := fun _ => fun
  | [d1, d2] => { results := [.lit (.bool true)], args := [d1, d2] }
  | _ => none }
def fnExactForgetOldRow : OpenClaim := { program := "ytlpgcbkialcjcaa", sum := "82871864e0299b05cd9b621d0b786b995a5df7f12fb6710846f5bb4a073cc6fd", func := "loop.example/g00924/laws.FnExactForgetOld", spec := "fnExactForgetOld", apart := false }
def FnExactForgetOldSaid : Prop := fnExactForgetOldRow.holds Try.pinned (OpenSpec.ofChange fnExactForgetOldSpec)

/-- ITS FALSE NEIGHBOUR: 'it returns false'. Refute it at one input. -/
def fnExactForgetOldWrong : ChangeSpec := { name := "fnExactForgetOld", fn := fun _ => fun
  | [d1, d2] => { results := [.lit (.bool false)], args := [d1, d2] }
  | _ => none }
def FnExactForgetOldWrongFalsely : Prop := fnExactForgetOldRow.holds Try.pinned (OpenSpec.ofChange fnExactForgetOldWrong)

/-- 'laws.FnExactMissingReports': WHATEVER THE INPUT: true; the input reads as it did. -/
def fnExactMissingReportsSpec : ChangeSpec := { name := "fnExactMissingReports", fn := fun _ => fun
  | [d1, d2] => { results := [.lit (.bool true)], args := [d1, d2] }
  | _ => none }
def fnExactMissingReportsRow : OpenClaim := { program := "ytlpgcbkialcjcaa", sum := "82871864e0299b05cd9b621d0b786b995a5df7f12fb6710846f5bb4a073cc6fd", func := "loop.example/g00924/laws.FnExactMissingReports", spec := "fnExactMissingReports", unfollowed := true, recurses := true, apart := false }
def FnExactMissingReportsSaid : Prop := fnExactMissingReportsRow.holds Try.pinned (OpenSpec.ofChange fnExactMissingReportsSpec)

/-- ITS FALSE NEIGHBOUR: 'it returns false'. Refute it at one input. -/
def fnExactMissingReportsWrong : ChangeSpec := { name := "fnExactMissingReports", fn := fun _ => fun
  | [d1, d2] => { results := [.lit (.bool false)], args := [d1, d2] }
  | _ => none }
def FnExactMissingReportsWrongFalsely : Prop := fnExactMissingReportsRow.holds Try.pinned (OpenSpec.ofChange fnExactMissingReportsWrong)

/-- 'laws.FnFiles': WHATEVER THE INPUT: true; the input reads as it did. -/
def fnFilesSpec : ChangeSpec := { name := "fnFiles", fn := fun _ => fun
  | [d] => { results := [.lit (.bool true)], args := [d] }
  | _ => none }
def fnFilesRow : OpenClaim := { program := "ytlpgcbkialcjcaa", sum := "82871864e0299b05cd9b621d0b786b995a5df7f12fb6710846f5bb4a073cc6fd", func := "loop.example/g00924/laws.FnFiles", spec := "fnFiles", unfollowed := true, recurses := true, apart := false }
def FnFilesSaid : Prop := fnFilesRow.holds Try.pinned (OpenSpec.ofChange fnFilesSpec)

/-- ITS FALSE NEIGHBOUR: 'it returns false'. Refute it at one input. -/
def fnFilesWrong : ChangeSpec := { name := "fnFiles", fn := fun _ => fun
  | [d] => { results := [.lit (.bool false)], args := [d] }
  | _ => none }
def FnFilesWrongFalsely : Prop := fnFilesRow.holds Try.pinned (OpenSpec.ofChange fnFilesWrong)

/-- 'laws.FnExactFileReport': WHATEVER THE INPUT: true; the input reads as it did. -/
def fnExactFileReportSpec : ChangeSpec := { name := "fnExactFileReport", fn := fun _ => fun
  | [d1, d2] => { results := [.lit (.bool true)], args := [d1, d2] }
  | _ => none }
def fnExactFileReportRow : OpenClaim := { program := "ytlpgcbkialcjcaa", sum := "82871864e0299b05cd9b621d0b786b995a5df7f12fb6710846f5bb4a073cc6fd", func := "loop.example/g00924/laws.FnExactFileReport", spec := "fnExactFileReport", inPlace := ["slices.overlaps[loop.example/g00924/impl.EReport]"], unfollowed := true, recurses := true, apart := false }
def FnExactFileReportSaid : Prop := fnExactFileReportRow.holds Try.pinned (OpenSpec.ofChange fnExactFileReportSpec)

/-- ITS FALSE NEIGHBOUR: 'it returns false'. Refute it at one input. -/
def fnExactFileReportWrong : ChangeSpec := { name := "fnExactFileReport", fn := fun _ => fun
  | [d1, d2] => { results := [.lit (.bool false)], args := [d1, d2] }
  | _ => none }
def FnExactFileReportWrongFalsely : Prop := fnExactFileReportRow.holds Try.pinned (OpenSpec.ofChange fnExactFileReportWrong)

/- THE SECOND FORM. 'bulk': how many values and letters a reading holds, each counted each time it is reached (what is shared counts as often as it is met; a slice's spare places count too). A statement '..UptoSaid' is the law's where the arguments, and the package variables that the reading takes, are together of bulk at most 1048576: NARROWER than '..Said'. Prove '..Said' where nothing that the law and all that it calls make is longer than what came in: it says more and counts as full. Else prove '..UptoSaid'. A law counts once. -/
mutual
def uptoBulk {H : Type} : DataW H → Nat
  | .lit (.string bytes) => bytes.length + 1
  | .lit _ => 1
  | .nil => 1
  | .ptr d => uptoBulk d + 1
  | .slice elems spare => uptoBulkAll elems + uptoBulkAll spare + 1
  | .agg parts => uptoBulkAll parts + 1
  | .iface _ d => uptoBulk d + 1
  | .map entries => uptoBulkEntries entries + 1
  | .held _ => 1
def uptoBulkAll {H : Type} : List (DataW H) → Nat
  | [] => 0
  | d :: r => uptoBulk d + uptoBulkAll r
def uptoBulkEntries {H : Type} : List (Lit × DataW H) → Nat
  | [] => 0
  | x :: r => uptoBulkEntry x + uptoBulkEntries r
def uptoBulkEntry {H : Type} : Lit × DataW H → Nat
  | (.string bytes, d) => bytes.length + uptoBulk d + 1
  | (_, d) => uptoBulk d + 1
 end
def uptoSmall : (H : Type) → List (DataW H) → Bool := fun _ ds => decide (uptoBulkAll ds ≤ 1048576)
def OpenSpec.upto (s : _root_.Go.ChangeSpec) : _root_.Go.OpenSpec := { _root_.Go.OpenSpec.ofChange s with cond := some uptoSmall }

/-- 'laws.FnExactIsEReport', WHERE WHAT IT READS IS OF BULK AT MOST 1048576: true; the input reads as it did. -/
def fnExactIsEReportUptoRow : OpenClaim := { program := "ytlpgcbkialcjcaa", sum := "82871864e0299b05cd9b621d0b786b995a5df7f12fb6710846f5bb4a073cc6fd", func := "loop.example/g00924/laws.FnExactIsEReport", spec := "fnExactIsEReport", apart := false, narrowed := true }
def FnExactIsEReportUptoSaid : Prop := fnExactIsEReportUptoRow.holds Try.pinned (OpenSpec.upto fnExactIsEReportSpec)

/-- 'laws.FnExactIsFile', WHERE WHAT IT READS IS OF BULK AT MOST 1048576: true; the input reads as it did. -/
def fnExactIsFileUptoRow : OpenClaim := { program := "ytlpgcbkialcjcaa", sum := "82871864e0299b05cd9b621d0b786b995a5df7f12fb6710846f5bb4a073cc6fd", func := "loop.example/g00924/laws.FnExactIsFile", spec := "fnExactIsFile", apart := false, narrowed := true }
def FnExactIsFileUptoSaid : Prop := fnExactIsFileUptoRow.holds Try.pinned (OpenSpec.upto fnExactIsFileSpec)

/-- 'laws.FnExactLastReport', WHERE WHAT IT READS IS OF BULK AT MOST 1048576: true; the input reads as it did. -/
def fnExactLastReportUptoRow : OpenClaim := { program := "ytlpgcbkialcjcaa", sum := "82871864e0299b05cd9b621d0b786b995a5df7f12fb6710846f5bb4a073cc6fd", func := "loop.example/g00924/laws.FnExactLastReport", spec := "fnExactLastReport", apart := false, narrowed := true }
def FnExactLastReportUptoSaid : Prop := fnExactLastReportUptoRow.holds Try.pinned (OpenSpec.upto fnExactLastReportSpec)

/-- 'laws.FnExactUnderWay', WHERE WHAT IT READS IS OF BULK AT MOST 1048576: true; the input reads as it did. -/
def fnExactUnderWayUptoRow : OpenClaim := { program := "ytlpgcbkialcjcaa", sum := "82871864e0299b05cd9b621d0b786b995a5df7f12fb6710846f5bb4a073cc6fd", func := "loop.example/g00924/laws.FnExactUnderWay", spec := "fnExactUnderWay", apart := false, narrowed := true }
def FnExactUnderWayUptoSaid : Prop := fnExactUnderWayUptoRow.holds Try.pinned (OpenSpec.upto fnExactUnderWaySpec)

/-- 'laws.FnExactForgetOld', WHERE WHAT IT READS IS OF BULK AT MOST 1048576: true; the input reads as it did. -/
def fnExactForgetOldUptoRow : OpenClaim := { program := "ytlpgcbkialcjcaa", sum := "82871864e0299b05cd9b621d0b786b995a5df7f12fb6710846f5bb4a073cc6fd", func := "loop.example/g00924/laws.FnExactForgetOld", spec := "fnExactForgetOld", apart := false, narrowed := true }
def FnExactForgetOldUptoSaid : Prop := fnExactForgetOldUptoRow.holds Try.pinned (OpenSpec.upto fnExactForgetOldSpec)

/-- 'laws.FnExactMissingReports', WHERE WHAT IT READS IS OF BULK AT MOST 1048576: true; the input reads as it did. -/
def fnExactMissingReportsUptoRow : OpenClaim := { program := "ytlpgcbkialcjcaa", sum := "82871864e0299b05cd9b621d0b786b995a5df7f12fb6710846f5bb4a073cc6fd", func := "loop.example/g00924/laws.FnExactMissingReports", spec := "fnExactMissingReports", unfollowed := true, recurses := true, apart := false, narrowed := true }
def FnExactMissingReportsUptoSaid : Prop := fnExactMissingReportsUptoRow.holds Try.pinned (OpenSpec.upto fnExactMissingReportsSpec)

/-- 'laws.FnFiles', WHERE WHAT IT READS IS OF BULK AT MOST 1048576: true; the input reads as it did. -/
def fnFilesUptoRow : OpenClaim := { program := "ytlpgcbkialcjcaa", sum := "82871864e0299b05cd9b621d0b786b995a5df7f12fb6710846f5bb4a073cc6fd", func := "loop.example/g00924/laws.FnFiles", spec := "fnFiles", unfollowed := true, recurses := true, apart := false, narrowed := true }
def FnFilesUptoSaid : Prop := fnFilesUptoRow.holds Try.pinned (OpenSpec.upto fnFilesSpec)

/-- 'laws.FnExactFileReport', WHERE WHAT IT READS IS OF BULK AT MOST 1048576: true; the input reads as it did. -/
def fnExactFileReportUptoRow : OpenClaim := { program := "ytlpgcbkialcjcaa", sum := "82871864e0299b05cd9b621d0b786b995a5df7f12fb6710846f5bb4a073cc6fd", func := "loop.example/g00924/laws.FnExactFileReport", spec := "fnExactFileReport", inPlace := ["slices.overlaps[loop.example/g00924/impl.EReport]"], unfollowed := true, recurses := true, apart := false, narrowed := true }
def FnExactFileReportUptoSaid : Prop := fnExactFileReportUptoRow.holds Try.pinned (OpenSpec.upto fnExactFileReportSpec)

end Rows
end Go.Proofs.Ytlpgcbkialcjcaa
