/-
  No cell of these rows narrows 'for every input' (looked for: loops, veiled, ifaces, maps, wideKeys, modest, calm, conditions, laid).
  DERIVED. THE GIVEN ROWS OF THIS SEAT. 6 by the template 'for every input the law returns true; each argument reads behind the call as it read before'; 0 by the template 'total and deterministic' (their statements: YtkkmmbogeeopaaaTotals.lean).
  GIVEN WITH THE SEED: the statements are not yours to turn. If you find one false, say at which input.
  Laid BY PROGRAM, IN A SANDBOX (cutbox-rows.mjs): the forced cells as the released guide's own fill.sh prints them over the translation f7331a9a2d9edcf2… (all of the seat's roots in one cut). By AI agents, Wed Nov 11 2026. No macro, syntax, notation, axiom, sorry.
-/
import Derived.Test.YtkkmmbogeeopaaaChecked
import GoSem.Claim
import GoSem.ClaimJoined
import GoSem.ClaimMapViews
import Derived.JoinedTies
import Derived.KernelRfl
namespace Go.Proofs.Ytkkmmbogeeopaaa
/- THE CELL 'sum', in the pinned program and in every row, IS THE sha256 OF THE DUMP (.gsa) THAT YtkkmmbogeeopaaaProg.lean LOADS. Nothing in Lean hashes anything: it is a label: what it is worth is what the hold of that sum in a sandbox is worth. -/
noncomputable def Try.pinned : Pinned := { name := "ytkkmmbogeeopaaa", sum := "f7331a9a2d9edcf2d9d603f03ecee1033474152694ffb2821626047f8597b5ec", checked := Try.checked }
namespace Rows
def none {H : Type} : Left H := { results := [], args := [] }

/-- 'laws.FnExactIsDrought': WHATEVER THE INPUT: true; the input reads as it did. -/
def fnExactIsDroughtSpec : ChangeSpec := { name := "fnExactIsDrought", fn := fun _ => fun
  | [d] => { results := [.lit (.bool true)], args := [d] }
  | _ => none }
def fnExactIsDroughtRow : OpenClaim := { program := "ytkkmmbogeeopaaa", sum := "f7331a9a2d9edcf2d9d603f03ecee1033474152694ffb2821626047f8597b5ec", func := "loop.example/g00924/laws.FnExactIsDrought", spec := "fnExactIsDrought", apart := false }
def FnExactIsDroughtSaid : Prop := fnExactIsDroughtRow.holds Try.pinned (OpenSpec.ofChange fnExactIsDroughtSpec)

/-- ITS FALSE NEIGHBOUR: 'it returns false'. Refute it at one input. -/
def fnExactIsDroughtWrong : ChangeSpec := { name := "fnExactIsDrought", fn := fun _ => fun
  | [d] => { results := [.lit (.bool false)], args := [d] }
  | _ => none }
def FnExactIsDroughtWrongFalsely : Prop := fnExactIsDroughtRow.holds Try.pinned (OpenSpec.ofChange fnExactIsDroughtWrong)

/-- 'laws.FnExactIsHalved': WHATEVER THE INPUT: true; the input reads as it did. -/
def fnExactIsHalvedSpec : ChangeSpec := { name := "fnExactIsHalved", fn := fun _ => fun
  | [d] => { results := [.lit (.bool true)], args := [d] }
  | _ => none }
def fnExactIsHalvedRow : OpenClaim := { program := "ytkkmmbogeeopaaa", sum := "f7331a9a2d9edcf2d9d603f03ecee1033474152694ffb2821626047f8597b5ec", func := "loop.example/g00924/laws.FnExactIsHalved", spec := "fnExactIsHalved", apart := false }
def FnExactIsHalvedSaid : Prop := fnExactIsHalvedRow.holds Try.pinned (OpenSpec.ofChange fnExactIsHalvedSpec)

/-- ITS FALSE NEIGHBOUR: 'it returns false'. Refute it at one input. -/
def fnExactIsHalvedWrong : ChangeSpec := { name := "fnExactIsHalved", fn := fun _ => fun
  | [d] => { results := [.lit (.bool false)], args := [d] }
  | _ => none }
def FnExactIsHalvedWrongFalsely : Prop := fnExactIsHalvedRow.holds Try.pinned (OpenSpec.ofChange fnExactIsHalvedWrong)

/-- 'laws.FnExactAllowedDraught': WHATEVER THE INPUT: true; the input reads as it did. -/
def fnExactAllowedDraughtSpec : ChangeSpec := { name := "fnExactAllowedDraught", fn := fun _ => fun
  | [d] => { results := [.lit (.bool true)], args := [d] }
  | _ => none }
def fnExactAllowedDraughtRow : OpenClaim := { program := "ytkkmmbogeeopaaa", sum := "f7331a9a2d9edcf2d9d603f03ecee1033474152694ffb2821626047f8597b5ec", func := "loop.example/g00924/laws.FnExactAllowedDraught", spec := "fnExactAllowedDraught", apart := false }
def FnExactAllowedDraughtSaid : Prop := fnExactAllowedDraughtRow.holds Try.pinned (OpenSpec.ofChange fnExactAllowedDraughtSpec)

/-- ITS FALSE NEIGHBOUR: 'it returns false'. Refute it at one input. -/
def fnExactAllowedDraughtWrong : ChangeSpec := { name := "fnExactAllowedDraught", fn := fun _ => fun
  | [d] => { results := [.lit (.bool false)], args := [d] }
  | _ => none }
def FnExactAllowedDraughtWrongFalsely : Prop := fnExactAllowedDraughtRow.holds Try.pinned (OpenSpec.ofChange fnExactAllowedDraughtWrong)

/-- 'laws.FnExactStageAt': WHATEVER THE INPUT: true; the input reads as it did. -/
def fnExactStageAtSpec : ChangeSpec := { name := "fnExactStageAt", fn := fun _ => fun
  | [d1, d2] => { results := [.lit (.bool true)], args := [d1, d2] }
  | _ => none }
def fnExactStageAtRow : OpenClaim := { program := "ytkkmmbogeeopaaa", sum := "f7331a9a2d9edcf2d9d603f03ecee1033474152694ffb2821626047f8597b5ec", func := "loop.example/g00924/laws.FnExactStageAt", spec := "fnExactStageAt", apart := false }
def FnExactStageAtSaid : Prop := fnExactStageAtRow.holds Try.pinned (OpenSpec.ofChange fnExactStageAtSpec)

/-- ITS FALSE NEIGHBOUR: 'it returns false'. Refute it at one input. -/
def fnExactStageAtWrong : ChangeSpec := { name := "fnExactStageAt", fn := fun _ => fun
  | [d1, d2] => { results := [.lit (.bool false)], args := [d1, d2] }
  | _ => none }
def FnExactStageAtWrongFalsely : Prop := fnExactStageAtRow.holds Try.pinned (OpenSpec.ofChange fnExactStageAtWrong)

/-- 'laws.FnTowing': WHATEVER THE INPUT: true; the input reads as it did. -/
def fnTowingSpec : ChangeSpec := { name := "fnTowing", fn := fun _ => fun
  | [d] => { results := [.lit (.bool true)], args := [d] }
  | _ => none }
def fnTowingRow : OpenClaim := { program := "ytkkmmbogeeopaaa", sum := "f7331a9a2d9edcf2d9d603f03ecee1033474152694ffb2821626047f8597b5ec", func := "loop.example/g00924/laws.FnTowing", spec := "fnTowing", unfollowed := true, recurses := true, apart := false }
def FnTowingSaid : Prop := fnTowingRow.holds Try.pinned (OpenSpec.ofChange fnTowingSpec)

/-- ITS FALSE NEIGHBOUR: 'it returns false'. Refute it at one input. -/
def fnTowingWrong : ChangeSpec := { name := "fnTowing", fn := fun _ => fun
  | [d] => { results := [.lit (.bool false)], args := [d] }
  | _ => none }
def FnTowingWrongFalsely : Prop := fnTowingRow.holds Try.pinned (OpenSpec.ofChange fnTowingWrong)

/-- 'laws.FnTugs': WHATEVER THE INPUT: true; the input reads as it did. -/
def fnTugsSpec : ChangeSpec := { name := "fnTugs", fn := fun _ => fun
  | [d] => { results := [.lit (.bool true)], args := [d] }
  | _ => none }
def fnTugsRow : OpenClaim := { program := "ytkkmmbogeeopaaa", sum := "f7331a9a2d9edcf2d9d603f03ecee1033474152694ffb2821626047f8597b5ec", func := "loop.example/g00924/laws.FnTugs", spec := "fnTugs", unfollowed := true, recurses := true, apart := false }
def FnTugsSaid : Prop := fnTugsRow.holds Try.pinned (OpenSpec.ofChange fnTugsSpec)

/-- ITS FALSE NEIGHBOUR: 'it returns false'. Refute it at one input. -/
def fnTugsWrong : ChangeSpec := { name := "fnTugs", fn := fun _ => fun
  | [d] => { results := [.lit (.bool false)], args := [d] }
  | _ => none }
def FnTugsWrongFalsely : Prop := fnTugsRow.holds Try.pinned (OpenSpec.ofChange fnTugsWrong)

/- THE SECOND FORM. 'bulk': how many values and letters a reading holds, each counted each time it is reached (what is shared counts as often as it is met; a slice's spare places count too). A statement '..UptoSaid' is the law's where the arguments, and the package variables that the reading takes, are together of bulk at most 1048576: NARROWER than '..Said'. Prove '..Said' where nothing that the law and all that it calls make is longer than what came in: it says more and counts as full. Else prove '..UptoSaid'. A law counts once. -/
mutual
def uptoBulk {H : Type} : DataW H → Nat
  | .lit (.string bytes) => bytes.length + 1
  | .lit _ => 1
  | .nil => 1
  | .ptr d => uptoBulk d + 1
  | .slice elems spare => uptoBulkAll elems + uptoBulkAll spare + 1
  | .agg parts => uptoBulkAll parts + 1
  | .iface _ d => uptoBulk d + 1
  | .map entries => uptoBulkEntries entries + 1
  | .held _ => 1
def uptoBulkAll {H : Type} : List (DataW H) → Nat
  | [] => 0
  | d :: r => uptoBulk d + uptoBulkAll r
def uptoBulkEntries {H : Type} : List (Lit × DataW H) → Nat
  | [] => 0
  | x :: r => uptoBulkEntry x + uptoBulkEntries r
def uptoBulkEntry {H : Type} : Lit × DataW H → Nat
  | (.string bytes, d) => bytes.length + uptoBulk d + 1
  | (_, d) => uptoBulk d + 1
 end
def uptoSmall : (H : Type) → List (DataW H) → Bool := fun _ ds => decide (uptoBulkAll ds ≤ 1048576)
def OpenSpec.upto (s : _root_.Go.ChangeSpec) : _root_.Go.OpenSpec := { _root_.Go.OpenSpec.ofChange s with cond := some uptoSmall }

/-- 'laws.FnExactIsDrought', WHERE WHAT IT READS IS OF BULK AT MOST 1048576: true; the input reads as it did. -/
def fnExactIsDroughtUptoRow : OpenClaim := { program := "ytkkmmbogeeopaaa", sum := "f7331a9a2d9edcf2d9d603f03ecee1033474152694ffb2821626047f8597b5ec", func := "loop.example/g00924/laws.FnExactIsDrought", spec := "fnExactIsDrought", apart := false, narrowed := true }
def FnExactIsDroughtUptoSaid : Prop := fnExactIsDroughtUptoRow.holds Try.pinned (OpenSpec.upto fnExactIsDroughtSpec)

/-- 'laws.FnExactIsHalved', WHERE WHAT IT READS IS OF BULK AT MOST 1048576: true; the input reads as it did. -/
def fnExactIsHalvedUptoRow : OpenClaim := { program := "ytkkmmbogeeopaaa", sum := "f7331a9a2d9edcf2d9d603f03ecee1033474152694ffb2821626047f8597b5ec", func := "loop.example/g00924/laws.FnExactIsHalved", spec := "fnExactIsHalved", apart := false, narrowed := true }
def FnExactIsHalvedUptoSaid : Prop := fnExactIsHalvedUptoRow.holds Try.pinned (OpenSpec.upto fnExactIsHalvedSpec)

/-- 'laws.FnExactAllowedDraught', WHERE WHAT IT READS IS OF BULK AT MOST 1048576: true; the input reads as it did. -/
def fnExactAllowedDraughtUptoRow : OpenClaim := { program := "ytkkmmbogeeopaaa", sum := "f7331a9a2d9edcf2d9d603f03ecee1033474152694ffb2821626047f8597b5ec", func := "loop.example/g00924/laws.FnExactAllowedDraught", spec := "fnExactAllowedDraught", apart := false, narrowed := true }
def FnExactAllowedDraughtUptoSaid : Prop := fnExactAllowedDraughtUptoRow.holds Try.pinned (OpenSpec.upto fnExactAllowedDraughtSpec)

/-- 'laws.FnExactStageAt', WHERE WHAT IT READS IS OF BULK AT MOST 1048576: true; the input reads as it did. -/
def fnExactStageAtUptoRow : OpenClaim := { program := "ytkkmmbogeeopaaa", sum := "f7331a9a2d9edcf2d9d603f03ecee1033474152694ffb2821626047f8597b5ec", func := "loop.example/g00924/laws.FnExactStageAt", spec := "fnExactStageAt", apart := false, narrowed := true }
def FnExactStageAtUptoSaid : Prop := fnExactStageAtUptoRow.holds Try.pinned (OpenSpec.upto fnExactStageAtSpec)

/-- 'laws.FnTowing', WHERE WHAT IT READS IS OF BULK AT MOST 1048576: true; the input reads as it did. -/
def fnTowingUptoRow : OpenClaim := { program := "ytkkmmbogeeopaaa", sum := "f7331a9a2d9edcf2d9d603f03ecee1033474152694ffb2821626047f8597b5ec", func := "loop.example/g00924/laws.FnTowing", spec := "fnTowing", unfollowed := true, recurses := true, apart := false, narrowed := true }
def FnTowingUptoSaid : Prop := fnTowingUptoRow.holds Try.pinned (OpenSpec.upto fnTowingSpec)

/-- 'laws.FnTugs', WHERE WHAT IT READS IS OF BULK AT MOST 1048576: true; the input reads as it did. -/
def fnTugsUptoRow : OpenClaim := { program := "ytkkmmbogeeopaaa", sum := "f7331a9a2d9edcf2d9d603f03ecee1033474152694ffb2821626047f8597b5ec", func := "loop.example/g00924/laws.FnTugs", spec := "fnTugs", unfollowed := true, recurses := true, apart := false, narrowed := true }
def FnTugsUptoSaid : Prop := fnTugsUptoRow.holds Try.pinned (OpenSpec.upto fnTugsSpec)

end Rows
end Go.Proofs.Ytkkmmbogeeopaaa
