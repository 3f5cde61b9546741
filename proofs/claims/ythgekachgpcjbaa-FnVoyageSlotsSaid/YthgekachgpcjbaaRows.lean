/-
  No cell of these rows narrows 'for every input' (looked for: loops, veiled, ifaces, maps, wideKeys, modest, calm, conditions, laid).
  DERIVED. THE GIVEN ROWS OF THIS SEAT. 11 by the template 'for every input the law returns true; each argument reads behind the call as it read before'; 0 by the template 'total and deterministic' (their statements: YthgekachgpcjbaaTotals.lean).
  GIVEN WITH THE SEED: the statements are not yours to turn. If you find one false, say at which input.
  Laid BY PROGRAM, IN A SANDBOX (cutbox-rows.mjs): the forced cells as the released guide's own fill.sh prints them over the translation d841a5fdea38e432… (all of the seat's roots in one cut). By AI agents, Wed Nov 11 2026. No macro, syntax, notation, axiom, sorry.
-/
import Derived.Test.YthgekachgpcjbaaChecked
import GoSem.Claim
import GoSem.ClaimJoined
import GoSem.ClaimMapViews
import Derived.JoinedTies
import Derived.KernelRfl
namespace Go.Proofs.Ythgekachgpcjbaa
/- THE CELL 'sum', in the pinned program and in every row, IS THE sha256 OF THE DUMP (.gsa) THAT YthgekachgpcjbaaProg.lean LOADS. Nothing in Lean hashes anything: it is a label: what it is worth is what the hold of that sum in a sandbox is worth. -/
noncomputable def Try.pinned : Pinned := { name := "ythgekachgpcjbaa", sum := "d841a5fdea38e432962cb79fff8055285ffe7e68c0b8320fab08a6d8ef7c6559", checked := Try.checked }
namespace Rows
def none {H : Type} : Left H := { results := [], args := [] }

/-- 'laws.FnExactAreBookings': WHATEVER THE INPUT: true; the input reads as it did. -/
def fnExactAreBookingsSpec : ChangeSpec := { name := "fnExactAreBookings", fn := fun _ => fun
  | [d1, d2] => { results := [.lit (.bool true)], args := [d1, d2] }
  | _ => none }
def fnExactAreBookingsRow : OpenClaim := { program := "ythgekachgpcjbaa", sum := "d841a5fdea38e432962cb79fff8055285ffe7e68c0b8320fab08a6d8ef7c6559", func := "loop.example/g00924/laws.FnExactAreBookings", spec := "fnExactAreBookings", unfollowed := true, recurses := true, apart := false }
def FnExactAreBookingsSaid : Prop := fnExactAreBookingsRow.holds Try.pinned (OpenSpec.ofChange fnExactAreBookingsSpec)

/-- ITS FALSE NEIGHBOUR: 'it returns false'. Refute it at one input. -/
def fnExactAreBookingsWrong : ChangeSpec := { name := "fnExactAreBookings", fn := fun _ => fun
  | [d1, d2] => { results := [.lit (.bool false)], args := [d1, d2] }
  | _ => none }
def FnExactAreBookingsWrongFalsely : Prop := fnExactAreBookingsRow.holds Try.pinned (OpenSpec.ofChange fnExactAreBookingsWrong)

/-- 'laws.FnExactSlotRoom': WHATEVER THE INPUT: true; the input reads as it did. -/
def fnExactSlotRoomSpec : ChangeSpec := { name := "fnExactSlotRoom", fn := fun _ => fun
  | [d1, d2, d3, d4] => { results := [.lit (.bool true)], args := [d1, d2, d3, d4] }
  | _ => none }
def fnExactSlotRoomRow : OpenClaim := { program := "ythgekachgpcjbaa", sum := "d841a5fdea38e432962cb79fff8055285ffe7e68c0b8320fab08a6d8ef7c6559", func := "loop.example/g00924/laws.FnExactSlotRoom", spec := "fnExactSlotRoom", unfollowed := true, recurses := true, apart := false }
def FnExactSlotRoomSaid : Prop := fnExactSlotRoomRow.holds Try.pinned (OpenSpec.ofChange fnExactSlotRoomSpec)

/-- ITS FALSE NEIGHBOUR: 'it returns false'. Refute it at one input. -/
def fnExactSlotRoomWrong : ChangeSpec := { name := "fnExactSlotRoom", fn := fun _ => fun
  | [d1, d2, d3, d4] => { results := [.lit (.bool false)], args := [d1, d2, d3, d4] }
  | _ => none }
def FnExactSlotRoomWrongFalsely : Prop := fnExactSlotRoomRow.holds Try.pinned (OpenSpec.ofChange fnExactSlotRoomWrong)

/-- 'laws.FnExactBusySlot': WHATEVER THE INPUT: true; the input reads as it did. -/
def fnExactBusySlotSpec : ChangeSpec := { name := "fnExactBusySlot", fn := fun _ => fun
  | [d1, d2] => { results := [.lit (.bool true)], args := [d1, d2] }
  | _ => none }
def fnExactBusySlotRow : OpenClaim := { program := "ythgekachgpcjbaa", sum := "d841a5fdea38e432962cb79fff8055285ffe7e68c0b8320fab08a6d8ef7c6559", func := "loop.example/g00924/laws.FnExactBusySlot", spec := "fnExactBusySlot", unfollowed := true, recurses := true, apart := false }
def FnExactBusySlotSaid : Prop := fnExactBusySlotRow.holds Try.pinned (OpenSpec.ofChange fnExactBusySlotSpec)

/-- ITS FALSE NEIGHBOUR: 'it returns false'. Refute it at one input. -/
def fnExactBusySlotWrong : ChangeSpec := { name := "fnExactBusySlot", fn := fun _ => fun
  | [d1, d2] => { results := [.lit (.bool false)], args := [d1, d2] }
  | _ => none }
def FnExactBusySlotWrongFalsely : Prop := fnExactBusySlotRow.holds Try.pinned (OpenSpec.ofChange fnExactBusySlotWrong)

/-- 'laws.FnExactBookSlot': WHATEVER THE INPUT: true; the input reads as it did. -/
def fnExactBookSlotSpec : ChangeSpec := { name := "fnExactBookSlot", fn := fun _ => fun
  | [d1, d2, d3, d4, d5] => { results := [.lit (.bool true)], args := [d1, d2, d3, d4, d5] }
  | _ => none }
def fnExactBookSlotRow : OpenClaim := { program := "ythgekachgpcjbaa", sum := "d841a5fdea38e432962cb79fff8055285ffe7e68c0b8320fab08a6d8ef7c6559", func := "loop.example/g00924/laws.FnExactBookSlot", spec := "fnExactBookSlot", unfollowed := true, recurses := true, apart := false }
def FnExactBookSlotSaid : Prop := fnExactBookSlotRow.holds Try.pinned (OpenSpec.ofChange fnExactBookSlotSpec)

/-- ITS FALSE NEIGHBOUR: 'it returns false'. Refute it at one input. -/
def fnExactBookSlotWrong : ChangeSpec := { name := "fnExactBookSlot", fn := fun _ => fun
  | [d1, d2, d3, d4, d5] => { results := [.lit (.bool false)], args := [d1, d2, d3, d4, d5] }
  | _ => none }
def FnExactBookSlotWrongFalsely : Prop := fnExactBookSlotRow.holds Try.pinned (OpenSpec.ofChange fnExactBookSlotWrong)

/-- 'laws.FnExactMoveBooking': WHATEVER THE INPUT: true; the input reads as it did. -/
def fnExactMoveBookingSpec : ChangeSpec := { name := "fnExactMoveBooking", fn := fun _ => fun
  | [d1, d2, d3, d4] => { results := [.lit (.bool true)], args := [d1, d2, d3, d4] }
  | _ => none }
def fnExactMoveBookingRow : OpenClaim := { program := "ythgekachgpcjbaa", sum := "d841a5fdea38e432962cb79fff8055285ffe7e68c0b8320fab08a6d8ef7c6559", func := "loop.example/g00924/laws.FnExactMoveBooking", spec := "fnExactMoveBooking", unfollowed := true, recurses := true, apart := false }
def FnExactMoveBookingSaid : Prop := fnExactMoveBookingRow.holds Try.pinned (OpenSpec.ofChange fnExactMoveBookingSpec)

/-- ITS FALSE NEIGHBOUR: 'it returns false'. Refute it at one input. -/
def fnExactMoveBookingWrong : ChangeSpec := { name := "fnExactMoveBooking", fn := fun _ => fun
  | [d1, d2, d3, d4] => { results := [.lit (.bool false)], args := [d1, d2, d3, d4] }
  | _ => none }
def FnExactMoveBookingWrongFalsely : Prop := fnExactMoveBookingRow.holds Try.pinned (OpenSpec.ofChange fnExactMoveBookingWrong)

/-- 'laws.FnExactCancelBooking': WHATEVER THE INPUT: true; the input reads as it did. -/
def fnExactCancelBookingSpec : ChangeSpec := { name := "fnExactCancelBooking", fn := fun _ => fun
  | [d1, d2, d3] => { results := [.lit (.bool true)], args := [d1, d2, d3] }
  | _ => none }
def fnExactCancelBookingRow : OpenClaim := { program := "ythgekachgpcjbaa", sum := "d841a5fdea38e432962cb79fff8055285ffe7e68c0b8320fab08a6d8ef7c6559", func := "loop.example/g00924/laws.FnExactCancelBooking", spec := "fnExactCancelBooking", unfollowed := true, recurses := true, apart := false }
def FnExactCancelBookingSaid : Prop := fnExactCancelBookingRow.holds Try.pinned (OpenSpec.ofChange fnExactCancelBookingSpec)

/-- ITS FALSE NEIGHBOUR: 'it returns false'. Refute it at one input. -/
def fnExactCancelBookingWrong : ChangeSpec := { name := "fnExactCancelBooking", fn := fun _ => fun
  | [d1, d2, d3] => { results := [.lit (.bool false)], args := [d1, d2, d3] }
  | _ => none }
def FnExactCancelBookingWrongFalsely : Prop := fnExactCancelBookingRow.holds Try.pinned (OpenSpec.ofChange fnExactCancelBookingWrong)

/-- 'laws.FnExactBookVoyage': WHATEVER THE INPUT: true; the input reads as it did. -/
def fnExactBookVoyageSpec : ChangeSpec := { name := "fnExactBookVoyage", fn := fun _ => fun
  | [d1, d2, d3, d4, d5, d6] => { results := [.lit (.bool true)], args := [d1, d2, d3, d4, d5, d6] }
  | _ => none }
def fnExactBookVoyageRow : OpenClaim := { program := "ythgekachgpcjbaa", sum := "d841a5fdea38e432962cb79fff8055285ffe7e68c0b8320fab08a6d8ef7c6559", func := "loop.example/g00924/laws.FnExactBookVoyage", spec := "fnExactBookVoyage", unfollowed := true, recurses := true, apart := false }
def FnExactBookVoyageSaid : Prop := fnExactBookVoyageRow.holds Try.pinned (OpenSpec.ofChange fnExactBookVoyageSpec)

/-- ITS FALSE NEIGHBOUR: 'it returns false'. Refute it at one input. -/
def fnExactBookVoyageWrong : ChangeSpec := { name := "fnExactBookVoyage", fn := fun _ => fun
  | [d1, d2, d3, d4, d5, d6] => { results := [.lit (.bool false)], args := [d1, d2, d3, d4, d5, d6] }
  | _ => none }
def FnExactBookVoyageWrongFalsely : Prop := fnExactBookVoyageRow.holds Try.pinned (OpenSpec.ofChange fnExactBookVoyageWrong)

/-- 'laws.FnBookings': WHATEVER THE INPUT: true; the input reads as it did. -/
def fnBookingsSpec : ChangeSpec := { name := "fnBookings", fn := fun _ => fun
  | [d] => { results := [.lit (.bool true)], args := [d] }
  | _ => none }
def fnBookingsRow : OpenClaim := { program := "ythgekachgpcjbaa", sum := "d841a5fdea38e432962cb79fff8055285ffe7e68c0b8320fab08a6d8ef7c6559", func := "loop.example/g00924/laws.FnBookings", spec := "fnBookings", unfollowed := true, recurses := true, apart := false }
def FnBookingsSaid : Prop := fnBookingsRow.holds Try.pinned (OpenSpec.ofChange fnBookingsSpec)

/-- ITS FALSE NEIGHBOUR: 'it returns false'. Refute it at one input. -/
def fnBookingsWrong : ChangeSpec := { name := "fnBookings", fn := fun _ => fun
  | [d] => { results := [.lit (.bool false)], args := [d] }
  | _ => none }
def FnBookingsWrongFalsely : Prop := fnBookingsRow.holds Try.pinned (OpenSpec.ofChange fnBookingsWrong)

/-- 'laws.FnExactIsUpward': WHATEVER THE INPUT: true; the input reads as it did. -/
def fnExactIsUpwardSpec : ChangeSpec := { name := "fnExactIsUpward", fn := fun _ => fun
  | [d1, d2, d3] => { results := [.lit (.bool true)], args := [d1, d2, d3] }
  | _ => none }
def fnExactIsUpwardRow : OpenClaim := { program := "ythgekachgpcjbaa", sum := "d841a5fdea38e432962cb79fff8055285ffe7e68c0b8320fab08a6d8ef7c6559", func := "loop.example/g00924/laws.FnExactIsUpward", spec := "fnExactIsUpward", unfollowed := true, recurses := true, apart := false }
def FnExactIsUpwardSaid : Prop := fnExactIsUpwardRow.holds Try.pinned (OpenSpec.ofChange fnExactIsUpwardSpec)

/-- ITS FALSE NEIGHBOUR: 'it returns false'. Refute it at one input. -/
def fnExactIsUpwardWrong : ChangeSpec := { name := "fnExactIsUpward", fn := fun _ => fun
  | [d1, d2, d3] => { results := [.lit (.bool false)], args := [d1, d2, d3] }
  | _ => none }
def FnExactIsUpwardWrongFalsely : Prop := fnExactIsUpwardRow.holds Try.pinned (OpenSpec.ofChange fnExactIsUpwardWrong)

/-- 'laws.FnExactVoyageSlots': WHATEVER THE INPUT: true; the input reads as it did. -/
def fnExactVoyageSlotsSpec : ChangeSpec := { name := "fnExactVoyageSlots", fn := fun _ => fun
  | [d1, d2, d3] => { results := [.lit (.bool true)], args := [d1, d2, d3] }
  | _ => none }
def fnExactVoyageSlotsRow : OpenClaim := { program := "ythgekachgpcjbaa", sum := "d841a5fdea38e432962cb79fff8055285ffe7e68c0b8320fab08a6d8ef7c6559", func := "loop.example/g00924/laws.FnExactVoyageSlots", spec := "fnExactVoyageSlots", unfollowed := true, recurses := true, apart := false }
def FnExactVoyageSlotsSaid : Prop := fnExactVoyageSlotsRow.holds Try.pinned (OpenSpec.ofChange fnExactVoyageSlotsSpec)

/-- ITS FALSE NEIGHBOUR: 'it returns false'. Refute it at one input. -/
def fnExactVoyageSlotsWrong : ChangeSpec := { name := "fnExactVoyageSlots", fn := fun _ => fun
  | [d1, d2, d3] => { results := [.lit (.bool false)], args := [d1, d2, d3] }
  | _ => none }
def FnExactVoyageSlotsWrongFalsely : Prop := fnExactVoyageSlotsRow.holds Try.pinned (OpenSpec.ofChange fnExactVoyageSlotsWrong)

/-- 'laws.FnVoyageSlots': WHATEVER THE INPUT: true; the input reads as it did. -/
def fnVoyageSlotsSpec : ChangeSpec := { name := "fnVoyageSlots", fn := fun _ => fun
  | [d] => { results := [.lit (.bool true)], args := [d] }
  | _ => none }
def fnVoyageSlotsRow : OpenClaim := { program := "ythgekachgpcjbaa", sum := "d841a5fdea38e432962cb79fff8055285ffe7e68c0b8320fab08a6d8ef7c6559", func := "loop.example/g00924/laws.FnVoyageSlots", spec := "fnVoyageSlots", unfollowed := true, recurses := true, apart := false }
def FnVoyageSlotsSaid : Prop := fnVoyageSlotsRow.holds Try.pinned (OpenSpec.ofChange fnVoyageSlotsSpec)

/-- ITS FALSE NEIGHBOUR: 'it returns false'. Refute it at one input. -/
def fnVoyageSlotsWrong : ChangeSpec := { name := "fnVoyageSlots", fn := fun _ => fun
  | [d] => { results := [.lit (.bool false)], args := [d] }
  | _ => none }
def FnVoyageSlotsWrongFalsely : Prop := fnVoyageSlotsRow.holds Try.pinned (OpenSpec.ofChange fnVoyageSlotsWrong)

/- THE SECOND FORM. 'bulk': how many values and letters a reading holds, each counted each time it is reached (what is shared counts as often as it is met; a slice's spare places count too). A statement '..UptoSaid' is the law's where the arguments, and the package variables that the reading takes, are together of bulk at most 1048576: NARROWER than '..Said'. Prove '..Said' where nothing that the law and all that it calls make is longer than what came in: it says more and counts as full. Else prove '..UptoSaid'. A law counts once. -/
mutual
def uptoBulk {H : Type} : DataW H → Nat
  | .lit (.string bytes) => bytes.length + 1
  | .lit _ => 1
  | .nil => 1
  | .ptr d => uptoBulk d + 1
  | .slice elems spare => uptoBulkAll elems + uptoBulkAll spare + 1
  | .agg parts => uptoBulkAll parts + 1
  | .iface _ d => uptoBulk d + 1
  | .map entries => uptoBulkEntries entries + 1
  | .held _ => 1
def uptoBulkAll {H : Type} : List (DataW H) → Nat
  | [] => 0
  | d :: r => uptoBulk d + uptoBulkAll r
def uptoBulkEntries {H : Type} : List (Lit × DataW H) → Nat
  | [] => 0
  | x :: r => uptoBulkEntry x + uptoBulkEntries r
def uptoBulkEntry {H : Type} : Lit × DataW H → Nat
  | (.string bytes, d) => bytes.length + uptoBulk d + 1
  | (_, d) => uptoBulk d + 1
 end
def uptoSmall : (H : Type) → List (DataW H) → Bool := fun _ ds => decide (uptoBulkAll ds ≤ 1048576)
def OpenSpec.upto (s : _root_.Go.ChangeSpec) : _root_.Go.OpenSpec := { _root_.Go.OpenSpec.ofChange s with cond := some uptoSmall }

/-- 'laws.FnExactAreBookings', WHERE WHAT IT READS IS OF BULK AT MOST 1048576: true; the input reads as it did. -/
def fnExactAreBookingsUptoRow : OpenClaim := { program := "ythgekachgpcjbaa", sum := "d841a5fdea38e432962cb79fff8055285ffe7e68c0b8320fab08a6d8ef7c6559", func := "loop.example/g00924/laws.FnExactAreBookings", spec := "fnExactAreBookings", unfollowed := true, recurses := true, apart := false, narrowed := true }
def FnExactAreBookingsUptoSaid : Prop := fnExactAreBookingsUptoRow.holds Try.pinned (OpenSpec.upto fnExactAreBookingsSpec)

/-- 'laws.FnExactSlotRoom', WHERE WHAT IT READS IS OF BULK AT MOST 1048576: true; the input reads as it did. -/
def fnExactSlotRoomUptoRow : OpenClaim := { program := "ythgekachgpcjbaa", sum := "d841a5fdea38e432962cb79fff8055285ffe7e68c0b8320fab08a6d8ef7c6559", func := "loop.example/g00924/laws.FnExactSlotRoom", spec := "fnExactSlotRoom", unfollowed := true, recurses := true, apart := false, narrowed := true }
def FnExactSlotRoomUptoSaid : Prop := fnExactSlotRoomUptoRow.holds Try.pinned (OpenSpec.upto fnExactSlotRoomSpec)

/-- 'laws.FnExactBusySlot', WHERE WHAT IT READS IS OF BULK AT MOST 1048576: true; the input reads as it did. -/
def fnExactBusySlotUptoRow : OpenClaim := { program := "ythgekachgpcjbaa", sum := "d841a5fdea38e432962cb79fff8055285ffe7e68c0b8320fab08a6d8ef7c6559", func := "loop.example/g00924/laws.FnExactBusySlot", spec := "fnExactBusySlot", unfollowed := true, recurses := true, apart := false, narrowed := true }
def FnExactBusySlotUptoSaid : Prop := fnExactBusySlotUptoRow.holds Try.pinned (OpenSpec.upto fnExactBusySlotSpec)

/-- 'laws.FnExactBookSlot', WHERE WHAT IT READS IS OF BULK AT MOST 1048576: true; the input reads as it did. -/
def fnExactBookSlotUptoRow : OpenClaim := { program := "ythgekachgpcjbaa", sum := "d841a5fdea38e432962cb79fff8055285ffe7e68c0b8320fab08a6d8ef7c6559", func := "loop.example/g00924/laws.FnExactBookSlot", spec := "fnExactBookSlot", unfollowed := true, recurses := true, apart := false, narrowed := true }
def FnExactBookSlotUptoSaid : Prop := fnExactBookSlotUptoRow.holds Try.pinned (OpenSpec.upto fnExactBookSlotSpec)

/-- 'laws.FnExactMoveBooking', WHERE WHAT IT READS IS OF BULK AT MOST 1048576: true; the input reads as it did. -/
def fnExactMoveBookingUptoRow : OpenClaim := { program := "ythgekachgpcjbaa", sum := "d841a5fdea38e432962cb79fff8055285ffe7e68c0b8320fab08a6d8ef7c6559", func := "loop.example/g00924/laws.FnExactMoveBooking", spec := "fnExactMoveBooking", unfollowed := true, recurses := true, apart := false, narrowed := true }
def FnExactMoveBookingUptoSaid : Prop := fnExactMoveBookingUptoRow.holds Try.pinned (OpenSpec.upto fnExactMoveBookingSpec)

/-- 'laws.FnExactCancelBooking', WHERE WHAT IT READS IS OF BULK AT MOST 1048576: true; the input reads as it did. -/
def fnExactCancelBookingUptoRow : OpenClaim := { program := "ythgekachgpcjbaa", sum := "d841a5fdea38e432962cb79fff8055285ffe7e68c0b8320fab08a6d8ef7c6559", func := "loop.example/g00924/laws.FnExactCancelBooking", spec := "fnExactCancelBooking", unfollowed := true, recurses := true, apart := false, narrowed := true }
def FnExactCancelBookingUptoSaid : Prop := fnExactCancelBookingUptoRow.holds Try.pinned (OpenSpec.upto fnExactCancelBookingSpec)

/-- 'laws.FnExactBookVoyage', WHERE WHAT IT READS IS OF BULK AT MOST 1048576: true; the input reads as it did. -/
def fnExactBookVoyageUptoRow : OpenClaim := { program := "ythgekachgpcjbaa", sum := "d841a5fdea38e432962cb79fff8055285ffe7e68c0b8320fab08a6d8ef7c6559", func := "loop.example/g00924/laws.FnExactBookVoyage", spec := "fnExactBookVoyage", unfollowed := true, recurses := true, apart := false, narrowed := true }
def FnExactBookVoyageUptoSaid : Prop := fnExactBookVoyageUptoRow.holds Try.pinned (OpenSpec.upto fnExactBookVoyageSpec)

/-- 'laws.FnBookings', WHERE WHAT IT READS IS OF BULK AT MOST 1048576: true; the input reads as it did. -/
def fnBookingsUptoRow : OpenClaim := { program := "ythgekachgpcjbaa", sum := "d841a5fdea38e432962cb79fff8055285ffe7e68c0b8320fab08a6d8ef7c6559", func := "loop.example/g00924/laws.FnBookings", spec := "fnBookings", unfollowed := true, recurses := true, apart := false, narrowed := true }
def FnBookingsUptoSaid : Prop := fnBookingsUptoRow.holds Try.pinned (OpenSpec.upto fnBookingsSpec)

/-- 'laws.FnExactIsUpward', WHERE WHAT IT READS IS OF BULK AT MOST 1048576: true; the input reads as it did. -/
def fnExactIsUpwardUptoRow : OpenClaim := { program := "ythgekachgpcjbaa", sum := "d841a5fdea38e432962cb79fff8055285ffe7e68c0b8320fab08a6d8ef7c6559", func := "loop.example/g00924/laws.FnExactIsUpward", spec := "fnExactIsUpward", unfollowed := true, recurses := true, apart := false, narrowed := true }
def FnExactIsUpwardUptoSaid : Prop := fnExactIsUpwardUptoRow.holds Try.pinned (OpenSpec.upto fnExactIsUpwardSpec)

/-- 'laws.FnExactVoyageSlots', WHERE WHAT IT READS IS OF BULK AT MOST 1048576: true; the input reads as it did. -/
def fnExactVoyageSlotsUptoRow : OpenClaim := { program := "ythgekachgpcjbaa", sum := "d841a5fdea38e432962cb79fff8055285ffe7e68c0b8320fab08a6d8ef7c6559", func := "loop.example/g00924/laws.FnExactVoyageSlots", spec := "fnExactVoyageSlots", unfollowed := true, recurses := true, apart := false, narrowed := true }
def FnExactVoyageSlotsUptoSaid : Prop := fnExactVoyageSlotsUptoRow.holds Try.pinned (OpenSpec.upto fnExactVoyageSlotsSpec)

/-- 'laws.FnVoyageSlots', WHERE WHAT IT READS IS OF BULK AT MOST 1048576: true; the input reads as it did. -/
def fnVoyageSlotsUptoRow : OpenClaim := { program := "ythgekachgpcjbaa", sum := "d841a5fdea38e432962cb79fff8055285ffe7e68c0b8320fab08a6d8ef7c6559", func := "loop.example/g00924/laws.FnVoyageSlots", spec := "fnVoyageSlots", unfollowed := true, recurses := true, apart := false, narrowed := true }
def FnVoyageSlotsUptoSaid : Prop := fnVoyageSlotsUptoRow.holds Try.pinned (OpenSpec.upto fnVoyageSlotsSpec)

end Rows
end Go.Proofs.Ythgekachgpcjbaa
