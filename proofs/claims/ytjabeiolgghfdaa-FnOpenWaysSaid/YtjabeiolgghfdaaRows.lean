/-
  No cell of these rows narrows 'for every input' (looked for: loops, veiled, ifaces, maps, wideKeys, modest, calm, conditions, laid).
  DERIVED. THE GIVEN ROWS OF THIS SEAT. 9 by the template 'for every input the law returns true; each argument reads behind the call as it read before'; 0 by the template 'total and deterministic' (their statements: YtjabeiolgghfdaaTotals.lean).
  GIVEN WITH THE SEED: the statements are not yours to turn. If you find one false, say at which input.
  Laid BY PROGRAM, IN A SANDBOX (cutbox-rows.mjs): the forced cells as the released guide's own fill.sh prints them over the translation 730559b27210cae0… (all of the seat's roots in one cut). By AI agents, Wed Nov 11 2026. No macro, syntax, notation, axiom, sorry.
-/
import Derived.Test.YtjabeiolgghfdaaChecked
import GoSem.Claim
import GoSem.ClaimJoined
import GoSem.ClaimMapViews
import Derived.JoinedTies
import Derived.KernelRfl
namespace Go.Proofs.Ytjabeiolgghfdaa
/- THE CELL 'sum', in the pinned program and in every row, IS THE sha256 OF THE DUMP (.gsa) THAT YtjabeiolgghfdaaProg.lean LOADS. Nothing in Lean hashes anything: it is a label: what it is worth is what the hold of that sum in a sandbox is worth. -/
noncomputable def Try.pinned : Pinned := { name := "ytjabeiolgghfdaa", sum := "730559b27210cae02653b77177843d9ae3c5a15ca8df58ad830f9148d84a4cad", checked := Try.checked }
namespace Rows
def none {H : Type} : Left H := { results := [], args := [] }

/-- 'laws.FnExactAreNotices': WHATEVER THE INPUT: true; the input reads as it did. -/
def fnExactAreNoticesSpec : ChangeSpec := { name := "fnExactAreNotices", fn := fun _ => fun
  | [d] => { results := [.lit (.bool true)], args := [d] }
  | _ => none }
def fnExactAreNoticesRow : OpenClaim := { program := "ytjabeiolgghfdaa", sum := "730559b27210cae02653b77177843d9ae3c5a15ca8df58ad830f9148d84a4cad", func := "loop.example/g00924/laws.FnExactAreNotices", spec := "fnExactAreNotices", apart := false }
def FnExactAreNoticesSaid : Prop := fnExactAreNoticesRow.holds Try.pinned (OpenSpec.ofChange fnExactAreNoticesSpec)

/-- ITS FALSE NEIGHBOUR: 'it returns false'. Refute it at one input. -/
def fnExactAreNoticesWrong : ChangeSpec := { name := "fnExactAreNotices", fn := fun _ => fun
  | [d] => { results := [.lit (.bool false)], args := [d] }
  | _ => none }
def FnExactAreNoticesWrongFalsely : Prop := fnExactAreNoticesRow.holds Try.pinned (OpenSpec.ofChange fnExactAreNoticesWrong)

/-- 'laws.FnExactDepthOnWay': WHATEVER THE INPUT: true; the input reads as it did. -/
def fnExactDepthOnWaySpec : ChangeSpec := { name := "fnExactDepthOnWay", fn := fun _ => fun
  | [d1, d2, d3, d4, d5] => { results := [.lit (.bool true)], args := [d1, d2, d3, d4, d5] }
  | _ => none }
def fnExactDepthOnWayRow : OpenClaim := { program := "ytjabeiolgghfdaa", sum := "730559b27210cae02653b77177843d9ae3c5a15ca8df58ad830f9148d84a4cad", func := "loop.example/g00924/laws.FnExactDepthOnWay", spec := "fnExactDepthOnWay", apart := false }
def FnExactDepthOnWaySaid : Prop := fnExactDepthOnWayRow.holds Try.pinned (OpenSpec.ofChange fnExactDepthOnWaySpec)

/-- ITS FALSE NEIGHBOUR: 'it returns false'. Refute it at one input. -/
def fnExactDepthOnWayWrong : ChangeSpec := { name := "fnExactDepthOnWay", fn := fun _ => fun
  | [d1, d2, d3, d4, d5] => { results := [.lit (.bool false)], args := [d1, d2, d3, d4, d5] }
  | _ => none }
def FnExactDepthOnWayWrongFalsely : Prop := fnExactDepthOnWayRow.holds Try.pinned (OpenSpec.ofChange fnExactDepthOnWayWrong)

/-- 'laws.FnExactSpeedAt': WHATEVER THE INPUT: true; the input reads as it did. -/
def fnExactSpeedAtSpec : ChangeSpec := { name := "fnExactSpeedAt", fn := fun _ => fun
  | [d1, d2, d3, d4] => { results := [.lit (.bool true)], args := [d1, d2, d3, d4] }
  | _ => none }
def fnExactSpeedAtRow : OpenClaim := { program := "ytjabeiolgghfdaa", sum := "730559b27210cae02653b77177843d9ae3c5a15ca8df58ad830f9148d84a4cad", func := "loop.example/g00924/laws.FnExactSpeedAt", spec := "fnExactSpeedAt", apart := false }
def FnExactSpeedAtSaid : Prop := fnExactSpeedAtRow.holds Try.pinned (OpenSpec.ofChange fnExactSpeedAtSpec)

/-- ITS FALSE NEIGHBOUR: 'it returns false'. Refute it at one input. -/
def fnExactSpeedAtWrong : ChangeSpec := { name := "fnExactSpeedAt", fn := fun _ => fun
  | [d1, d2, d3, d4] => { results := [.lit (.bool false)], args := [d1, d2, d3, d4] }
  | _ => none }
def FnExactSpeedAtWrongFalsely : Prop := fnExactSpeedAtRow.holds Try.pinned (OpenSpec.ofChange fnExactSpeedAtWrong)

/-- 'laws.FnExactIsOpen': WHATEVER THE INPUT: true; the input reads as it did. -/
def fnExactIsOpenSpec : ChangeSpec := { name := "fnExactIsOpen", fn := fun _ => fun
  | [d1, d2, d3, d4] => { results := [.lit (.bool true)], args := [d1, d2, d3, d4] }
  | _ => none }
def fnExactIsOpenRow : OpenClaim := { program := "ytjabeiolgghfdaa", sum := "730559b27210cae02653b77177843d9ae3c5a15ca8df58ad830f9148d84a4cad", func := "loop.example/g00924/laws.FnExactIsOpen", spec := "fnExactIsOpen", unfollowed := true, recurses := true, apart := false }
def FnExactIsOpenSaid : Prop := fnExactIsOpenRow.holds Try.pinned (OpenSpec.ofChange fnExactIsOpenSpec)

/-- ITS FALSE NEIGHBOUR: 'it returns false'. Refute it at one input. -/
def fnExactIsOpenWrong : ChangeSpec := { name := "fnExactIsOpen", fn := fun _ => fun
  | [d1, d2, d3, d4] => { results := [.lit (.bool false)], args := [d1, d2, d3, d4] }
  | _ => none }
def FnExactIsOpenWrongFalsely : Prop := fnExactIsOpenRow.holds Try.pinned (OpenSpec.ofChange fnExactIsOpenWrong)

/-- 'laws.FnExactNextOpenDay': WHATEVER THE INPUT: true; the input reads as it did. -/
def fnExactNextOpenDaySpec : ChangeSpec := { name := "fnExactNextOpenDay", fn := fun _ => fun
  | [d1, d2, d3, d4] => { results := [.lit (.bool true)], args := [d1, d2, d3, d4] }
  | _ => none }
def fnExactNextOpenDayRow : OpenClaim := { program := "ytjabeiolgghfdaa", sum := "730559b27210cae02653b77177843d9ae3c5a15ca8df58ad830f9148d84a4cad", func := "loop.example/g00924/laws.FnExactNextOpenDay", spec := "fnExactNextOpenDay", unfollowed := true, recurses := true, apart := false }
def FnExactNextOpenDaySaid : Prop := fnExactNextOpenDayRow.holds Try.pinned (OpenSpec.ofChange fnExactNextOpenDaySpec)

/-- ITS FALSE NEIGHBOUR: 'it returns false'. Refute it at one input. -/
def fnExactNextOpenDayWrong : ChangeSpec := { name := "fnExactNextOpenDay", fn := fun _ => fun
  | [d1, d2, d3, d4] => { results := [.lit (.bool false)], args := [d1, d2, d3, d4] }
  | _ => none }
def FnExactNextOpenDayWrongFalsely : Prop := fnExactNextOpenDayRow.holds Try.pinned (OpenSpec.ofChange fnExactNextOpenDayWrong)

/-- 'laws.FnExactNoticesMet': WHATEVER THE INPUT: true; the input reads as it did. -/
def fnExactNoticesMetSpec : ChangeSpec := { name := "fnExactNoticesMet", fn := fun _ => fun
  | [d1, d2, d3, d4] => { results := [.lit (.bool true)], args := [d1, d2, d3, d4] }
  | _ => none }
def fnExactNoticesMetRow : OpenClaim := { program := "ytjabeiolgghfdaa", sum := "730559b27210cae02653b77177843d9ae3c5a15ca8df58ad830f9148d84a4cad", func := "loop.example/g00924/laws.FnExactNoticesMet", spec := "fnExactNoticesMet", apart := false }
def FnExactNoticesMetSaid : Prop := fnExactNoticesMetRow.holds Try.pinned (OpenSpec.ofChange fnExactNoticesMetSpec)

/-- ITS FALSE NEIGHBOUR: 'it returns false'. Refute it at one input. -/
def fnExactNoticesMetWrong : ChangeSpec := { name := "fnExactNoticesMet", fn := fun _ => fun
  | [d1, d2, d3, d4] => { results := [.lit (.bool false)], args := [d1, d2, d3, d4] }
  | _ => none }
def FnExactNoticesMetWrongFalsely : Prop := fnExactNoticesMetRow.holds Try.pinned (OpenSpec.ofChange fnExactNoticesMetWrong)

/-- 'laws.FnExactEndedNotices': WHATEVER THE INPUT: true; the input reads as it did. -/
def fnExactEndedNoticesSpec : ChangeSpec := { name := "fnExactEndedNotices", fn := fun _ => fun
  | [d1, d2] => { results := [.lit (.bool true)], args := [d1, d2] }
  | _ => none }
def fnExactEndedNoticesRow : OpenClaim := { program := "ytjabeiolgghfdaa", sum := "730559b27210cae02653b77177843d9ae3c5a15ca8df58ad830f9148d84a4cad", func := "loop.example/g00924/laws.FnExactEndedNotices", spec := "fnExactEndedNotices", unfollowed := true, recurses := true, apart := false }
def FnExactEndedNoticesSaid : Prop := fnExactEndedNoticesRow.holds Try.pinned (OpenSpec.ofChange fnExactEndedNoticesSpec)

/-- ITS FALSE NEIGHBOUR: 'it returns false'. Refute it at one input. -/
def fnExactEndedNoticesWrong : ChangeSpec := { name := "fnExactEndedNotices", fn := fun _ => fun
  | [d1, d2] => { results := [.lit (.bool false)], args := [d1, d2] }
  | _ => none }
def FnExactEndedNoticesWrongFalsely : Prop := fnExactEndedNoticesRow.holds Try.pinned (OpenSpec.ofChange fnExactEndedNoticesWrong)

/-- 'laws.FnExactOpenStretches': WHATEVER THE INPUT: true; the input reads as it did. -/
def fnExactOpenStretchesSpec : ChangeSpec := { name := "fnExactOpenStretches", fn := fun _ => fun
  | [d1, d2] => { results := [.lit (.bool true)], args := [d1, d2] }
  | _ => none }
def fnExactOpenStretchesRow : OpenClaim := { program := "ytjabeiolgghfdaa", sum := "730559b27210cae02653b77177843d9ae3c5a15ca8df58ad830f9148d84a4cad", func := "loop.example/g00924/laws.FnExactOpenStretches", spec := "fnExactOpenStretches", unfollowed := true, recurses := true, apart := false }
def FnExactOpenStretchesSaid : Prop := fnExactOpenStretchesRow.holds Try.pinned (OpenSpec.ofChange fnExactOpenStretchesSpec)

/-- ITS FALSE NEIGHBOUR: 'it returns false'. Refute it at one input. -/
def fnExactOpenStretchesWrong : ChangeSpec := { name := "fnExactOpenStretches", fn := fun _ => fun
  | [d1, d2] => { results := [.lit (.bool false)], args := [d1, d2] }
  | _ => none }
def FnExactOpenStretchesWrongFalsely : Prop := fnExactOpenStretchesRow.holds Try.pinned (OpenSpec.ofChange fnExactOpenStretchesWrong)

/-- 'laws.FnOpenWays': WHATEVER THE INPUT: true; the input reads as it did. -/
def fnOpenWaysSpec : ChangeSpec := { name := "fnOpenWays", fn := fun _ => fun
  | [d] => { results := [.lit (.bool true)], args := [d] }
  | _ => none }
def fnOpenWaysRow : OpenClaim := { program := "ytjabeiolgghfdaa", sum := "730559b27210cae02653b77177843d9ae3c5a15ca8df58ad830f9148d84a4cad", func := "loop.example/g00924/laws.FnOpenWays", spec := "fnOpenWays", unfollowed := true, recurses := true, apart := false }
def FnOpenWaysSaid : Prop := fnOpenWaysRow.holds Try.pinned (OpenSpec.ofChange fnOpenWaysSpec)

/-- ITS FALSE NEIGHBOUR: 'it returns false'. Refute it at one input. -/
def fnOpenWaysWrong : ChangeSpec := { name := "fnOpenWays", fn := fun _ => fun
  | [d] => { results := [.lit (.bool false)], args := [d] }
  | _ => none }
def FnOpenWaysWrongFalsely : Prop := fnOpenWaysRow.holds Try.pinned (OpenSpec.ofChange fnOpenWaysWrong)

/- THE SECOND FORM. 'bulk': how many values and letters a reading holds, each counted each time it is reached (what is shared counts as often as it is met; a slice's spare places count too). A statement '..UptoSaid' is the law's where the arguments, and the package variables that the reading takes, are together of bulk at most 1048576: NARROWER than '..Said'. Prove '..Said' where nothing that the law and all that it calls make is longer than what came in: it says more and counts as full. Else prove '..UptoSaid'. A law counts once. -/
mutual
def uptoBulk {H : Type} : DataW H → Nat
  | .lit (.string bytes) => bytes.length + 1
  | .lit _ => 1
  | .nil => 1
  | .ptr d => uptoBulk d + 1
  | .slice elems spare => uptoBulkAll elems + uptoBulkAll spare + 1
  | .agg parts => uptoBulkAll parts + 1
  | .iface _ d => uptoBulk d + 1
  | .map entries => uptoBulkEntries entries + 1
  | .held _ => 1
def uptoBulkAll {H : Type} : List (DataW H) → Nat
  | [] => 0
  | d :: r => uptoBulk d + uptoBulkAll r
def uptoBulkEntries {H : Type} : List (Lit × DataW H) → Nat
  | [] => 0
  | x :: r => uptoBulkEntry x + uptoBulkEntries r
def uptoBulkEntry {H : Type} : Lit × DataW H → Nat
  | (.string bytes, d) => bytes.length + uptoBulk d + 1
  | (_, d) => uptoBulk d + 1
 end
def uptoSmall : (H : Type) → List (DataW H) → Bool := fun _ ds => decide (uptoBulkAll ds ≤ 1048576)
def OpenSpec.upto (s : _root_.Go.ChangeSpec) : _root_.Go.OpenSpec := { _root_.Go.OpenSpec.ofChange s with cond := some uptoSmall }

/-- 'laws.FnExactAreNotices', WHERE WHAT IT READS IS OF BULK AT MOST 1048576: true; the input reads as it did. -/
def fnExactAreNoticesUptoRow : OpenClaim := { program := "ytjabeiolgghfdaa", sum := "730559b27210cae02653b77177843d9ae3c5a15ca8df58ad830f9148d84a4cad", func := "loop.example/g00924/laws.FnExactAreNotices", spec := "fnExactAreNotices", apart := false, narrowed := true }
def FnExactAreNoticesUptoSaid : Prop := fnExactAreNoticesUptoRow.holds Try.pinned (OpenSpec.upto fnExactAreNoticesSpec)

/-- 'laws.FnExactDepthOnWay', WHERE WHAT IT READS IS OF BULK AT MOST 1048576: true; the input reads as it did. -/
def fnExactDepthOnWayUptoRow : OpenClaim := { program := "ytjabeiolgghfdaa", sum := "730559b27210cae02653b77177843d9ae3c5a15ca8df58ad830f9148d84a4cad", func := "loop.example/g00924/laws.FnExactDepthOnWay", spec := "fnExactDepthOnWay", apart := false, narrowed := true }
def FnExactDepthOnWayUptoSaid : Prop := fnExactDepthOnWayUptoRow.holds Try.pinned (OpenSpec.upto fnExactDepthOnWaySpec)

/-- 'laws.FnExactSpeedAt', WHERE WHAT IT READS IS OF BULK AT MOST 1048576: true; the input reads as it did. -/
def fnExactSpeedAtUptoRow : OpenClaim := { program := "ytjabeiolgghfdaa", sum := "730559b27210cae02653b77177843d9ae3c5a15ca8df58ad830f9148d84a4cad", func := "loop.example/g00924/laws.FnExactSpeedAt", spec := "fnExactSpeedAt", apart := false, narrowed := true }
def FnExactSpeedAtUptoSaid : Prop := fnExactSpeedAtUptoRow.holds Try.pinned (OpenSpec.upto fnExactSpeedAtSpec)

/-- 'laws.FnExactIsOpen', WHERE WHAT IT READS IS OF BULK AT MOST 1048576: true; the input reads as it did. -/
def fnExactIsOpenUptoRow : OpenClaim := { program := "ytjabeiolgghfdaa", sum := "730559b27210cae02653b77177843d9ae3c5a15ca8df58ad830f9148d84a4cad", func := "loop.example/g00924/laws.FnExactIsOpen", spec := "fnExactIsOpen", unfollowed := true, recurses := true, apart := false, narrowed := true }
def FnExactIsOpenUptoSaid : Prop := fnExactIsOpenUptoRow.holds Try.pinned (OpenSpec.upto fnExactIsOpenSpec)

/-- 'laws.FnExactNextOpenDay', WHERE WHAT IT READS IS OF BULK AT MOST 1048576: true; the input reads as it did. -/
def fnExactNextOpenDayUptoRow : OpenClaim := { program := "ytjabeiolgghfdaa", sum := "730559b27210cae02653b77177843d9ae3c5a15ca8df58ad830f9148d84a4cad", func := "loop.example/g00924/laws.FnExactNextOpenDay", spec := "fnExactNextOpenDay", unfollowed := true, recurses := true, apart := false, narrowed := true }
def FnExactNextOpenDayUptoSaid : Prop := fnExactNextOpenDayUptoRow.holds Try.pinned (OpenSpec.upto fnExactNextOpenDaySpec)

/-- 'laws.FnExactNoticesMet', WHERE WHAT IT READS IS OF BULK AT MOST 1048576: true; the input reads as it did. -/
def fnExactNoticesMetUptoRow : OpenClaim := { program := "ytjabeiolgghfdaa", sum := "730559b27210cae02653b77177843d9ae3c5a15ca8df58ad830f9148d84a4cad", func := "loop.example/g00924/laws.FnExactNoticesMet", spec := "fnExactNoticesMet", apart := false, narrowed := true }
def FnExactNoticesMetUptoSaid : Prop := fnExactNoticesMetUptoRow.holds Try.pinned (OpenSpec.upto fnExactNoticesMetSpec)

/-- 'laws.FnExactEndedNotices', WHERE WHAT IT READS IS OF BULK AT MOST 1048576: true; the input reads as it did. -/
def fnExactEndedNoticesUptoRow : OpenClaim := { program := "ytjabeiolgghfdaa", sum := "730559b27210cae02653b77177843d9ae3c5a15ca8df58ad830f9148d84a4cad", func := "loop.example/g00924/laws.FnExactEndedNotices", spec := "fnExactEndedNotices", unfollowed := true, recurses := true, apart := false, narrowed := true }
def FnExactEndedNoticesUptoSaid : Prop := fnExactEndedNoticesUptoRow.holds Try.pinned (OpenSpec.upto fnExactEndedNoticesSpec)

/-- 'laws.FnExactOpenStretches', WHERE WHAT IT READS IS OF BULK AT MOST 1048576: true; the input reads as it did. -/
def fnExactOpenStretchesUptoRow : OpenClaim := { program := "ytjabeiolgghfdaa", sum := "730559b27210cae02653b77177843d9ae3c5a15ca8df58ad830f9148d84a4cad", func := "loop.example/g00924/laws.FnExactOpenStretches", spec := "fnExactOpenStretches", unfollowed := true, recurses := true, apart := false, narrowed := true }
def FnExactOpenStretchesUptoSaid : Prop := fnExactOpenStretchesUptoRow.holds Try.pinned (OpenSpec.upto fnExactOpenStretchesSpec)

/-- 'laws.FnOpenWays', WHERE WHAT IT READS IS OF BULK AT MOST 1048576: true; the input reads as it did. -/
def fnOpenWaysUptoRow : OpenClaim := { program := "ytjabeiolgghfdaa", sum := "730559b27210cae02653b77177843d9ae3c5a15ca8df58ad830f9148d84a4cad", func := "loop.example/g00924/laws.FnOpenWays", spec := "fnOpenWays", unfollowed := true, recurses := true, apart := false, narrowed := true }
def FnOpenWaysUptoSaid : Prop := fnOpenWaysUptoRow.holds Try.pinned (OpenSpec.upto fnOpenWaysSpec)

end Rows
end Go.Proofs.Ytjabeiolgghfdaa
