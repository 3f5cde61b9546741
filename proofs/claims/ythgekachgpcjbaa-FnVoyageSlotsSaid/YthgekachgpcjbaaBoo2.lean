/- Bookings: when they are bookings, how many a slot has. Conditions: none. -/
import Derived.Test.YthgekachgpcjbaaBoo1
namespace Go.Proofs.Ythgekachgpcjbaa
open Go.RowKit
set_option maxRecDepth 100000
theorem inside_spec {w : World} {n lo hi : Int} : Calls Try.prog 52 #[.int .i64 n, .int .i64 lo, .int .i64 hi] w (RetB w (.bool (inB n lo hi))) := by
  refine calls_of_run (vs := [_, _, _]) (L := [(0, _), (1, _), (2, _)]) (n := 15) (F := []) (H := []) Try.func52 rfl rfl rfl rfl (HOk.start _) ?_
  refine Run.seq ?_
  refine Run.quiet (by intro h; cases h) ?_
  refine QOps.st rfl rfl (Yv.assign rfl).yl ?_
  refine QOps.nil ?_
  refine Run.seq ?_
  refine Run.quiet (by intro h; cases h) ?_
  refine QOps.st rfl rfl (Yv.move rfl).yl ?_
  refine QOps.st rfl rfl (Yv.move rfl).yl ?_
  refine QOps.st rfl rfl (Yv.geq rfl rfl).yl ?_
  refine QOps.st rfl rfl (Yv.move rfl).yl ?_
  refine' QOps.and [_, _, _] _ (.tmp 13) rfl rfl rfl rfl rfl rfl (fun hg1 => ?_) ?_
  rotate_left
  · try replace hg1 := of_decide_eq_true hg1
    refine QOps.st rfl rfl (Yv.move rfl).yl ?_
    refine QOps.st rfl rfl (Yv.move rfl).yl ?_
    refine QOps.st rfl rfl (Yv.leq rfl rfl).yl ?_
    exact QOps.nil rfl
  refine QOps.st rfl rfl (Yv.assign rfl).yl ?_
  refine QOps.nil ?_
  refine Run.ret ?_
  refine retQ.of (.inr rfl) rfl (.tmp rfl .nil) (fun w' hw' => ?_)
  refine ⟨?_, hw'.bel.below⟩
  exact rfl

theorem l1In_spec {w : World} {n lo hi : Int} : Calls Try.prog 66 #[.int .i64 n, .int .i64 lo, .int .i64 hi] w (RetB w (.bool (inB n lo hi))) := by
  refine calls_of_run (vs := [_, _, _]) (L := [(0, _), (1, _), (2, _)]) (n := 15) (F := []) (H := []) Try.func66 rfl rfl rfl rfl (HOk.start _) ?_
  refine Run.seq ?_
  refine Run.quiet (by intro h; cases h) ?_
  refine QOps.st rfl rfl (Yv.assign rfl).yl ?_
  refine QOps.nil ?_
  refine Run.seq ?_
  refine Run.quiet (by intro h; cases h) ?_
  refine QOps.st rfl rfl (Yv.move rfl).yl ?_
  refine QOps.st rfl rfl (Yv.move rfl).yl ?_
  refine QOps.st rfl rfl (Yv.geq rfl rfl).yl ?_
  refine QOps.st rfl rfl (Yv.move rfl).yl ?_
  refine' QOps.and [_, _, _] _ (.tmp 13) rfl rfl rfl rfl rfl rfl (fun hg1 => ?_) ?_
  rotate_left
  · try replace hg1 := of_decide_eq_true hg1
    refine QOps.st rfl rfl (Yv.move rfl).yl ?_
    refine QOps.st rfl rfl (Yv.move rfl).yl ?_
    refine QOps.st rfl rfl (Yv.leq rfl rfl).yl ?_
    exact QOps.nil rfl
  refine QOps.st rfl rfl (Yv.assign rfl).yl ?_
  refine QOps.nil ?_
  refine Run.ret ?_
  refine retQ.of (.inr rfl) rfl (.tmp rfl .nil) (fun w' hw' => ?_)
  refine ⟨?_, hw'.bel.below⟩
  exact rfl

theorem isLockNumber_spec {w : World} {n : Int} : Calls Try.prog 53 #[.int .i64 n] w (RetB w (.bool (inB n 0 4))) := by
  refine calls_of_run (vs := [_]) (L := [(0, _)]) (n := 5) (F := []) (H := []) Try.func53 rfl rfl rfl rfl (HOk.start _) ?_
  refine Run.seq ?_
  refine Run.quiet (by intro h; cases h) ?_
  refine QOps.st rfl rfl (Yv.assign rfl).yl ?_
  refine QOps.nil ?_
  refine Run.seq ?_
  refine Run.quiet (by intro h; cases h) ?_
  refine QOps.st rfl rfl (Yv.move rfl).yl ?_
  refine QOps.st rfl rfl (Yl.call callable52 (.cons rfl (.cons rfl (.cons rfl (.nil)))) (fun w' hw' => inside_spec)) ?_
  refine QOps.st rfl rfl (Yv.assign rfl).yl ?_
  refine QOps.nil ?_
  refine Run.ret ?_
  refine retQ.of (.inr rfl) rfl (.tmp rfl .nil) (fun w' hw' => ?_)
  refine ⟨?_, hw'.bel.below⟩
  exact rfl

theorem isSlot_spec {w : World} {n : Int} : Calls Try.prog 54 #[.int .i64 n] w (RetB w (.bool (inB n 0 47))) := by
  refine calls_of_run (vs := [_]) (L := [(0, _)]) (n := 5) (F := []) (H := []) Try.func54 rfl rfl rfl rfl (HOk.start _) ?_
  refine Run.seq ?_
  refine Run.quiet (by intro h; cases h) ?_
  refine QOps.st rfl rfl (Yv.assign rfl).yl ?_
  refine QOps.nil ?_
  refine Run.seq ?_
  refine Run.quiet (by intro h; cases h) ?_
  refine QOps.st rfl rfl (Yv.move rfl).yl ?_
  refine QOps.st rfl rfl (Yl.call callable52 (.cons rfl (.cons rfl (.cons rfl (.nil)))) (fun w' hw' => inside_spec)) ?_
  refine QOps.st rfl rfl (Yv.assign rfl).yl ?_
  refine QOps.nil ?_
  refine Run.ret ?_
  refine retQ.of (.inr rfl) rfl (.tmp rfl .nil) (fun w' hw' => ?_)
  refine ⟨?_, hw'.bel.below⟩
  exact rfl

def slotOk (lock slot : Int) : Bool := inB lock 0 4 && inB slot 0 47
theorem l18Slot_spec {w : World} {n m : Int} : Calls Try.prog 59 #[.int .i64 n, .int .i64 m] w (RetB w (.bool (slotOk n m))) := by
  refine calls_of_run (vs := [_, _]) (L := [(0, _), (1, _)]) (n := 11) (F := []) (H := []) Try.func59 rfl rfl rfl rfl (HOk.start _) ?_
  refine Run.seq ?_
  refine Run.quiet (by intro h; cases h) ?_
  refine QOps.st rfl rfl (Yv.assign rfl).yl ?_
  refine QOps.nil ?_
  refine Run.seq ?_
  refine Run.quiet (by intro h; cases h) ?_
  refine QOps.st rfl rfl (Yv.move rfl).yl ?_
  refine QOps.st rfl rfl (Yl.call callable66 (.cons rfl (.cons rfl (.cons rfl (.nil)))) (fun w' hw' => l1In_spec)) ?_
  refine QOps.st rfl rfl (Yv.move rfl).yl ?_
  refine' QOps.and [_, _] _ (.tmp 9) rfl rfl rfl rfl rfl rfl (fun hg1 => ?_) ?_
  rotate_left
  · try replace hg1 := of_decide_eq_true hg1
    refine QOps.st rfl rfl (Yv.move rfl).yl ?_
    refine QOps.st rfl rfl (Yl.call callable66 (.cons rfl (.cons rfl (.cons rfl (.nil)))) (fun w' hw' => l1In_spec)) ?_
    exact QOps.nil rfl
  refine QOps.st rfl rfl (Yv.assign rfl).yl ?_
  refine QOps.nil ?_
  refine Run.ret ?_
  refine retQ.of (.inr rfl) rfl (.tmp rfl .nil) (fun w' hw' => ?_)
  refine ⟨?_, hw'.bel.below⟩
  exact rfl

/-- A booking's numbers are in their ranges. -/
def oneB (b : Booking) : Bool := inB b.number 1 999 && inB b.vessel 1 99 && slotOk b.lock b.slot
theorem l18One_spec {w : World} {b : Booking} : Calls Try.prog 84 #[.agg b.enc.toArray] w (RetB w (.bool (oneB b))) := by
  refine calls_of_run (vs := [_]) (L := [(0, _)]) (n := 18) (F := []) (H := []) Try.func84 rfl rfl rfl rfl (HOk.start _) ?_
  refine Run.seq ?_
  refine Run.ops ?_
  refine SOps.one rfl (One.box (cs := [_, _, _, _]) rfl rfl rfl (fun b1 => ?_))
  refine SOps.st rfl rfl (Yv.assign rfl).yl ?_
  refine SOps.nil ?_
  refine Run.seq ?_
  refine Run.quiet (by intro h; cases h) ?_
  refine QOps.st rfl rfl (Yv.fieldAddr fld49_0 rfl).yl ?_
  refine QOps.st rfl rfl (Yv.loadB (i := 0) lay3 rfl rfl rfl rfl).yl ?_
  refine QOps.st rfl rfl (Yl.call callable66 (.cons rfl (.cons rfl (.cons rfl (.nil)))) (fun w' hw' => l1In_spec)) ?_
  refine QOps.st rfl rfl (Yv.move rfl).yl ?_
  refine' QOps.and [_, _, _] _ (.tmp 9) rfl rfl rfl rfl rfl rfl (fun hg1 => ?_) ?_
  rotate_left
  · try replace hg1 := of_decide_eq_true hg1
    refine QOps.st rfl rfl (Yv.fieldAddr fld49_1 rfl).yl ?_
    refine QOps.st rfl rfl (Yv.loadB (i := 0) lay3 rfl rfl rfl rfl).yl ?_
    refine QOps.st rfl rfl (Yl.call callable66 (.cons rfl (.cons rfl (.cons rfl (.nil)))) (fun w' hw' => l1In_spec)) ?_
    exact QOps.nil rfl
  refine QOps.st rfl rfl (Yv.move rfl).yl ?_
  refine' QOps.and [_, _, _, _, _] _ (.tmp 16) rfl rfl rfl rfl rfl rfl (fun hg2 => ?_) ?_
  rotate_left
  · try replace hg2 := of_decide_eq_true hg2
    refine QOps.st rfl rfl (Yv.fieldAddr fld49_2 rfl).yl ?_
    refine QOps.st rfl rfl (Yv.loadB (i := 0) lay3 rfl rfl rfl rfl).yl ?_
    refine QOps.st rfl rfl (Yv.fieldAddr fld49_3 rfl).yl ?_
    refine QOps.st rfl rfl (Yv.loadB (i := 0) lay3 rfl rfl rfl rfl).yl ?_
    refine QOps.st rfl rfl (Yl.call callable59 (.cons rfl (.cons rfl (.nil))) (fun w' hw' => l18Slot_spec)) ?_
    exact QOps.nil rfl
  refine QOps.st rfl rfl (Yv.assign rfl).yl ?_
  refine QOps.nil ?_
  refine Run.ret ?_
  refine retQ.of (.inr rfl) rfl (.tmp rfl .nil) (fun w' hw' => ?_)
  refine ⟨?_, hw'.bel.below⟩
  exact rfl

/-- How many of the first k bookings are for a slot of a lock. -/
def usedTo (bs : List Booking) (lock slot : Int) : Nat → Int
  | 0 => 0
  | k + 1 => if (decide ((nth bs k).lock = lock) && decide ((nth bs k).slot = slot)) = true then usedTo bs lock slot k + 1 else usedTo bs lock slot k
theorem bookedIn_spec {w : World} {A : Option Addr} {c : Nat} {bs : List Booking} {lock slot : Int} (hs : Sl w 4 A bs.length c (bs.flatMap Booking.enc)) :
    Calls Try.prog 55 #[.slice A bs.length c, .int .i64 lock, .int .i64 slot] w (RetB w (.int .i64 (usedTo bs lock slot bs.length))) := by
  have hmx := Sl.lenle hs
  refine calls_of_run (vs := [_, _, _]) (L := [(0, _), (1, _), (2, _)]) (n := 30) (F := []) (H := []) Try.func55 rfl rfl rfl rfl (HOk.start _) ?_
  refine Run.seq ?_
  refine Run.quiet (by intro h; cases h) ?_
  refine QOps.st rfl rfl (Yv.assign rfl).yl ?_
  refine QOps.nil ?_
  refine Run.seq ?_
  refine Run.quiet (by intro h; cases h) ?_
  refine QOps.st rfl rfl (Yv.assign rfl).yl ?_
  refine QOps.nil ?_
  refine Run.seq ?_
  refine Run.seq ?_
  refine Run.quiet (by intro h; cases h) ?_
  refine QOps.st rfl rfl (Yv.move rfl).yl ?_
  refine QOps.st rfl rfl (Yv.lenS el25s rfl).yl ?_
  refine QOps.st rfl rfl (Yv.move rfl).yl ?_
  refine QOps.nil ?_
  refine Run.block ?_
  refine Run.loop (S := Nat × Int) (fun s => match s with | (k, v) => k ≤ bs.length ∧ 0 ≤ v ∧ v ≤ (k : Int) ∧ v = usedTo bs lock slot k) (fun s => match s with | (k, v) => [(1, .int .i64 lock), (2, .int .i64 slot), (7, .int .i64 v), (10, .slice A bs.length c), (11, .int .i64 (bs.length : Int)), (12, .int .i64 (k : Int))]) (fun s => match s with | (k, v) => []) (fun s => match s with | (k, v) => bs.length - k) (0, 0) ?_ (SubE.cons rfl (SubE.cons rfl (SubE.cons rfl (SubE.cons rfl (SubE.cons rfl (SubE.cons rfl (SubE.nil _))))))) (List.Sublist.refl _) ?_
  · exact ⟨by omega, by omega, by simp, rfl⟩
  · rintro ⟨k, v⟩ ⟨hk, hv0, hv1, hv⟩
    show Run _ _ _ _ _ [(1, .int .i64 lock), (2, .int .i64 slot), (7, .int .i64 v), (10, .slice A bs.length c), (11, .int .i64 (bs.length : Int)), (12, .int .i64 (k : Int))] [] _
    refine Run.seq ?_
    refine Run.quiet (by intro h; cases h) ?_
    refine QOps.st rfl rfl (Yv.lss rfl rfl).yl ?_
    refine QOps.nil ?_
    refine Run.seq ?_
    refine Run.cond rfl (fun hc1 => ?_) (fun hc1 => ?_)
    · try replace hc1 := of_decide_eq_true hc1
      refine Run.skip ?_
      refine Run.seq ?_
      refine Run.block ?_
      refine Run.seq ?_
      refine Run.ops ?_
      refine SOps.st rfl rfl (Yv.indexAddr k el25 rfl rfl rfl (Rd.arg hs) (by omega)).yl ?_
      refine SOps.st rfl rfl (Yv.loadEs lay49 rfl Booking.len (Rd.arg hs) (by first | omega | (simp; omega)) (by decide)).yl ?_
      refine SOps.one rfl (One.alloc rfl zero49 (fun b1 => ?_))
      refine SOps.one rfl (One.store (i := 0) (off := 0) (vs := [_, _, _, _]) (cs' := [_, _, _, _]) (H' := [_]) lay49 rfl rfl rfl rfl rfl rfl rfl rfl rfl rfl ?_)
      refine SOps.nil ?_
      refine Run.seq ?_
      refine Run.quiet (by intro h; cases h) ?_
      refine QOps.st rfl rfl (Yv.fieldAddr fld49_2 rfl).yl ?_
      refine QOps.st rfl rfl (Yv.loadB (i := 0) lay3 rfl rfl rfl rfl).yl ?_
      refine QOps.st rfl rfl (Yv.move rfl).yl ?_
      refine QOps.st rfl rfl (Yv.eqI rfl rfl).yl ?_
      refine QOps.st rfl rfl (Yv.move rfl).yl ?_
      refine' QOps.and [_, _, _, _] _ (.tmp 24) rfl rfl rfl rfl rfl rfl (fun hg1 => ?_) ?_
      rotate_left
      · try replace hg1 := of_decide_eq_true hg1
        refine QOps.st rfl rfl (Yv.fieldAddr fld49_3 rfl).yl ?_
        refine QOps.st rfl rfl (Yv.loadB (i := 0) lay3 rfl rfl rfl rfl).yl ?_
        refine QOps.st rfl rfl (Yv.move rfl).yl ?_
        refine QOps.st rfl rfl (Yv.eqI rfl rfl).yl ?_
        exact QOps.nil rfl
      refine QOps.nil ?_
      refine Run.cond rfl (fun hc2 => ?_) (fun hc2 => ?_)
      · try replace hc2 := of_decide_eq_true hc2
        refine Run.quiet (by intro h; cases h) ?_
        refine QOps.st rfl rfl (Yv.move rfl).yl ?_
        refine QOps.st rfl rfl (Yv.add rfl rfl (by omega)).yl ?_
        refine QOps.st rfl rfl (Yv.assign rfl).yl ?_
        refine QOps.nil ?_
        refine Run.quiet (by intro h; cases h) ?_
        refine QOps.st rfl rfl (Yv.succN rfl rfl (by omega)).yl ?_
        refine QOps.st rfl rfl (Yv.move rfl).yl ?_
        refine QOps.nil ?_
        refine ⟨(k + 1, _), ?_, ?_, (SubE.cons rfl (SubE.cons rfl (SubE.cons rfl (SubE.cons rfl (SubE.cons rfl (SubE.cons rfl (SubE.nil _))))))), (List.Sublist.cons _ (List.Sublist.refl _))⟩
        · exact ⟨by omega, by omega, by omega, by rw [usedTo, if_pos hc2, hv]⟩
        · first | omega | (dsimp only; omega)
      · try replace hc2 := of_decide_eq_false hc2
        refine Run.skip ?_
        refine Run.quiet (by intro h; cases h) ?_
        refine QOps.st rfl rfl (Yv.succN rfl rfl (by omega)).yl ?_
        refine QOps.st rfl rfl (Yv.move rfl).yl ?_
        refine QOps.nil ?_
        refine ⟨(k + 1, v), ?_, ?_, (SubE.cons rfl (SubE.cons rfl (SubE.cons rfl (SubE.cons rfl (SubE.cons rfl (SubE.cons rfl (SubE.nil _))))))), (List.Sublist.cons _ (List.Sublist.refl _))⟩
        · exact ⟨by omega, by omega, by omega, by rw [usedTo, if_neg (by rw [hc2]; simp), hv]⟩
        · first | omega | (dsimp only; omega)
    · try replace hc1 := of_decide_eq_false hc1
      refine Run.exit ?_
      refine Run.seq ?_
      refine Run.quiet (by intro h; cases h) ?_
      refine QOps.st rfl rfl (Yv.move rfl).yl ?_
      refine QOps.st rfl rfl (Yv.assign rfl).yl ?_
      refine QOps.nil ?_
      refine Run.ret ?_
      obtain rfl : k = bs.length := by omega
      subst hv
      refine retQ.of (.inr rfl) rfl (.tmp rfl .nil) (fun w' hw' => ?_)
      refine ⟨?_, hw'.bel.below⟩
      exact rfl

theorem l18Used_spec {w : World} {A : Option Addr} {c : Nat} {bs : List Booking} {lock slot : Int} (hs : Sl w 4 A bs.length c (bs.flatMap Booking.enc)) :
    Calls Try.prog 60 #[.slice A bs.length c, .int .i64 lock, .int .i64 slot] w (RetB w (.int .i64 (usedTo bs lock slot bs.length))) := by
  have hmx := Sl.lenle hs
  refine calls_of_run (vs := [_, _, _]) (L := [(0, _), (1, _), (2, _)]) (n := 34) (F := []) (H := []) Try.func60 rfl rfl rfl rfl (HOk.start _) ?_
  refine Run.seq ?_
  refine Run.quiet (by intro h; cases h) ?_
  refine QOps.st rfl rfl (Yv.assign rfl).yl ?_
  refine QOps.nil ?_
  refine Run.seq ?_
  refine Run.quiet (by intro h; cases h) ?_
  refine QOps.st rfl rfl (Yv.assign rfl).yl ?_
  refine QOps.nil ?_
  refine Run.seq ?_
  refine Run.seq ?_
  refine Run.quiet (by intro h; cases h) ?_
  refine QOps.st rfl rfl (Yv.assign rfl).yl ?_
  refine QOps.nil ?_
  refine Run.block ?_
  refine Run.loop (S := Nat × Int) (fun s => match s with | (k, v) => k ≤ bs.length ∧ 0 ≤ v ∧ v ≤ (k : Int) ∧ v = usedTo bs lock slot k) (fun s => match s with | (k, v) => [(0, .slice A bs.length c), (1, .int .i64 lock), (2, .int .i64 slot), (7, .int .i64 v), (8, .int .i64 (k : Int))]) (fun s => match s with | (k, v) => []) (fun s => match s with | (k, v) => bs.length - k) (0, 0) ?_ (SubE.cons rfl (SubE.cons rfl (SubE.cons rfl (SubE.cons rfl (SubE.cons rfl (SubE.nil _)))))) (List.Sublist.refl _) ?_
  · exact ⟨by omega, by omega, by simp, rfl⟩
  · rintro ⟨k, v⟩ ⟨hk, hv0, hv1, hv⟩
    show Run _ _ _ _ _ [(0, .slice A bs.length c), (1, .int .i64 lock), (2, .int .i64 slot), (7, .int .i64 v), (8, .int .i64 (k : Int))] [] _
    refine Run.seq ?_
    refine Run.seq ?_
    refine Run.quiet (by intro h; cases h) ?_
    refine QOps.st rfl rfl (Yv.move rfl).yl ?_
    refine QOps.st rfl rfl (Yv.move rfl).yl ?_
    refine QOps.st rfl rfl (Yv.lenS el25s rfl).yl ?_
    refine QOps.st rfl rfl (Yv.lss rfl rfl).yl ?_
    refine QOps.nil ?_
    refine Run.cond rfl (fun hc1 => ?_) (fun hc1 => ?_)
    · try replace hc1 := of_decide_eq_true hc1
      refine Run.skip ?_
      refine Run.seq ?_
      refine Run.block ?_
      refine Run.seq ?_
      refine Run.quiet (by intro h; cases h) ?_
      refine QOps.st rfl rfl (Yv.move rfl).yl ?_
      refine QOps.st rfl rfl (Yv.move rfl).yl ?_
      refine QOps.st rfl rfl (Yv.indexAddr k el25 rfl rfl rfl (Rd.arg hs) (by omega)).yl ?_
      refine QOps.st rfl rfl (Yv.fieldAddr fld49_2 rfl).yl ?_
      refine QOps.st rfl rfl (Yv.loadF lay3 rfl Booking.len (Rd.arg hs) (by first | omega | (simp; omega)) (by decide) rfl).yl ?_
      refine QOps.st rfl rfl (Yv.move rfl).yl ?_
      refine QOps.st rfl rfl (Yv.eqI rfl rfl).yl ?_
      refine QOps.st rfl rfl (Yv.move rfl).yl ?_
      refine' QOps.and [_, _, _, _, _, _, _] _ (.tmp 29) rfl rfl rfl rfl rfl rfl (fun hg1 => ?_) ?_
      rotate_left
      · try replace hg1 := of_decide_eq_true hg1
        refine QOps.st rfl rfl (Yv.move rfl).yl ?_
        refine QOps.st rfl rfl (Yv.move rfl).yl ?_
        refine QOps.st rfl rfl (Yv.indexAddr k el25 rfl rfl rfl (Rd.arg hs) (by omega)).yl ?_
        refine QOps.st rfl rfl (Yv.fieldAddr fld49_3 rfl).yl ?_
        refine QOps.st rfl rfl (Yv.loadF lay3 rfl Booking.len (Rd.arg hs) (by first | omega | (simp; omega)) (by decide) rfl).yl ?_
        refine QOps.st rfl rfl (Yv.move rfl).yl ?_
        refine QOps.st rfl rfl (Yv.eqI rfl rfl).yl ?_
        exact QOps.nil rfl
      refine QOps.nil ?_
      refine Run.cond rfl (fun hc2 => ?_) (fun hc2 => ?_)
      · try replace hc2 := of_decide_eq_true hc2
        refine Run.quiet (by intro h; cases h) ?_
        refine QOps.st rfl rfl (Yv.move rfl).yl ?_
        refine QOps.st rfl rfl (Yv.add rfl rfl (by omega)).yl ?_
        refine QOps.st rfl rfl (Yv.assign rfl).yl ?_
        refine QOps.nil ?_
        refine Run.quiet (by intro h; cases h) ?_
        refine QOps.st rfl rfl (Yv.move rfl).yl ?_
        refine QOps.st rfl rfl (Yv.succN rfl rfl (by omega)).yl ?_
        refine QOps.st rfl rfl (Yv.assign rfl).yl ?_
        refine QOps.nil ?_
        refine ⟨(k + 1, _), ?_, ?_, (SubE.cons rfl (SubE.cons rfl (SubE.cons rfl (SubE.cons rfl (SubE.cons rfl (SubE.nil _)))))), (List.Sublist.refl _)⟩
        · exact ⟨by omega, by omega, by omega, by rw [usedTo, if_pos hc2, hv]⟩
        · first | omega | (dsimp only; omega)
      · try replace hc2 := of_decide_eq_false hc2
        refine Run.skip ?_
        refine Run.quiet (by intro h; cases h) ?_
        refine QOps.st rfl rfl (Yv.move rfl).yl ?_
        refine QOps.st rfl rfl (Yv.succN rfl rfl (by omega)).yl ?_
        refine QOps.st rfl rfl (Yv.assign rfl).yl ?_
        refine QOps.nil ?_
        refine ⟨(k + 1, v), ?_, ?_, (SubE.cons rfl (SubE.cons rfl (SubE.cons rfl (SubE.cons rfl (SubE.cons rfl (SubE.nil _)))))), (List.Sublist.refl _)⟩
        · exact ⟨by omega, by omega, by omega, by rw [usedTo, if_neg (by rw [hc2]; simp), hv]⟩
        · first | omega | (dsimp only; omega)
    · try replace hc1 := of_decide_eq_false hc1
      refine Run.exit ?_
      refine Run.seq ?_
      refine Run.quiet (by intro h; cases h) ?_
      refine QOps.st rfl rfl (Yv.move rfl).yl ?_
      refine QOps.st rfl rfl (Yv.assign rfl).yl ?_
      refine QOps.nil ?_
      refine Run.ret ?_
      obtain rfl : k = bs.length := by omega
      subst hv
      refine retQ.of (.inr rfl) rfl (.tmp rfl .nil) (fun w' hw' => ?_)
      refine ⟨?_, hw'.bel.below⟩
      exact rfl

/-- One vessel at one lock. -/
def sameB (b x : Booking) : Bool := decide (x.vessel = b.vessel) && decide (x.lock = b.lock)
def headB (bs : List Booking) (k : Nat) : Bool := !oneB (nth bs k) || (decide ((0 : Int) < (k : Int)) && decide ((nth bs k).number ≤ (nth bs (k - 1)).number))
def dupB (bs : List Booking) (k : Nat) : Bool := !allTo k (fun i => !sameB (nth bs k) (nth bs i))
def fullB (room : Int) (bs : List Booking) (k : Nat) : Bool := decide (room < usedTo bs (nth bs k).lock (nth bs k).slot bs.length)
def badB (room : Int) (bs : List Booking) (k : Nat) : Bool := headB bs k || fullB room bs k || dupB bs k
def areBookings (room : Int) (bs : List Booking) : Bool := inB room 1 3 && decide ((bs.length : Int) ≤ 10) && allTo bs.length (fun k => !badB room bs k)
theorem not4 {a b c d o : Bool} : (!a || !b || !c || !d || o) = (!(a && b && (c && d)) || o) := by cases a <;> cases b <;> cases c <;> cases d <;> rfl
theorem are_bad {room : Int} {bs : List Booking} {k : Nat} (hk : k < bs.length) (h : badB room bs k = true) : areBookings room bs = false := by
  unfold areBookings
  rw [allTo_false hk (by rw [h]; rfl)]
  simp
theorem are_room {room : Int} {bs : List Booking} (h : inB room 1 3 = false) : areBookings room bs = false := by unfold areBookings; rw [h]; rfl
theorem are_long {room : Int} {bs : List Booking} (h : (10 : Int) < bs.length) : areBookings room bs = false := by unfold areBookings; rw [decide_eq_false (by omega)]; simp
theorem are_good {room : Int} {bs : List Booking} (h1 : inB room 1 3 = true) (h2 : (bs.length : Int) ≤ 10) (h : ∀ i, i < bs.length → badB room bs i = false) : areBookings room bs = true := by
  unfold areBookings
  rw [h1, decide_eq_true h2, allTo_iff.2 (fun i hi => by rw [h i hi]; rfl)]
  rfl
theorem allTo_congr {n : Nat} {p q : Nat → Bool} (h : ∀ i, i < n → p i = q i) : allTo n p = allTo n q := by
  unfold allTo
  rw [Bool.eq_iff_iff]
  simp only [List.all_eq_true, List.mem_range]
  exact ⟨fun h2 i hi => by rw [← h i hi]; exact h2 i hi, fun h2 i hi => by rw [h i hi]; exact h2 i hi⟩
theorem nth_take {α : Type} [Inhabited α] {l : List α} {k i : Nat} (h : i < k) : nth (l.take k) i = nth l i := by simp [nth, h]
theorem AreBookings1_spec {w : World} {x b : Booking} {blk : Nat} (h : Sl w 4 (some ⟨blk, 0, none⟩) 1 1 ([b].flatMap Booking.enc)) :
    Calls Try.prog 57 #[.agg x.enc.toArray, .pointer (some ⟨blk, 0, none⟩)] w (RetB w (.bool (sameB b x))) := by
  refine calls_of_run (vs := [_, _]) (L := [(0, _), (1, _)]) (n := 16) (F := []) (H := []) Try.func57 rfl rfl rfl rfl (HOk.start _) ?_
  refine Run.seq ?_
  refine Run.ops ?_
  refine SOps.one rfl (One.box (cs := [_, _, _, _]) rfl rfl rfl (fun b1 => ?_))
  refine SOps.st rfl rfl (Yv.assign rfl).yl ?_
  refine SOps.nil ?_
  refine Run.seq ?_
  refine Run.quiet (by intro h; cases h) ?_
  refine QOps.st rfl rfl (Yv.fieldAddr fld49_1 rfl).yl ?_
  refine QOps.st rfl rfl (Yv.loadB (i := 0) lay3 rfl rfl rfl rfl).yl ?_
  refine QOps.st rfl rfl (Yv.fieldAddr fld49_1 rfl).yl ?_
  refine QOps.st rfl rfl (Yv.loadF (k := 0) lay3 rfl Booking.len (Rd.arg h) (by simp) (by decide) rfl).yl ?_
  refine QOps.st rfl rfl (Yv.eqI rfl rfl).yl ?_
  refine QOps.st rfl rfl (Yv.move rfl).yl ?_
  refine' QOps.and [_, _, _, _, _] _ (.tmp 14) rfl rfl rfl rfl rfl rfl (fun hg1 => ?_) ?_
  rotate_left
  · try replace hg1 := of_decide_eq_true hg1
    refine QOps.st rfl rfl (Yv.fieldAddr fld49_2 rfl).yl ?_
    refine QOps.st rfl rfl (Yv.loadB (i := 0) lay3 rfl rfl rfl rfl).yl ?_
    refine QOps.st rfl rfl (Yv.fieldAddr fld49_2 rfl).yl ?_
    refine QOps.st rfl rfl (Yv.loadF (k := 0) lay3 rfl Booking.len (Rd.arg h) (by simp) (by decide) rfl).yl ?_
    refine QOps.st rfl rfl (Yv.eqI rfl rfl).yl ?_
    exact QOps.nil rfl
  refine QOps.st rfl rfl (Yv.assign rfl).yl ?_
  refine QOps.nil ?_
  refine Run.ret ?_
  refine retQ.of (.inr rfl) rfl (.tmp rfl .nil) (fun w' hw' => ?_)
  refine ⟨?_, hw'.bel.below⟩
  exact rfl
theorem AreBookings_spec {w : World} {A : Option Addr} {c : Nat} {room : Int} {bs : List Booking} (hs : Sl w 4 A bs.length c (bs.flatMap Booking.enc)) :
    Calls Try.prog 17 #[.int .i64 room, .slice A bs.length c] w (RetB w (.bool (areBookings room bs))) := by
  have hmx := Sl.lenle hs
  have hcap := hs.cap
  refine calls_of_run (vs := [_, _]) (L := [(0, _), (1, _)]) (n := 75) (F := []) (H := []) Try.func17 rfl rfl rfl rfl (HOk.start _) ?_
  refine Run.seq ?_
  refine Run.quiet (by intro h; cases h) ?_
  refine QOps.st rfl rfl (Yv.assign rfl).yl ?_
  refine QOps.nil ?_
  refine Run.seq ?_
  refine Run.seq ?_
  refine Run.quiet (by intro h; cases h) ?_
  refine QOps.st rfl rfl (Yv.move rfl).yl ?_
  refine QOps.st rfl rfl (Yl.call callable52 (.cons rfl (.cons rfl (.cons rfl (.nil)))) (fun w' hw' => inside_spec)) ?_
  refine QOps.st rfl rfl (Yv.not rfl).yl ?_
  refine QOps.st rfl rfl (Yv.move rfl).yl ?_
  refine' QOps.or [_, _, _] _ (.tmp 13) rfl rfl rfl rfl rfl rfl (fun hg1 => ?_) ?_
  rotate_left
  · try replace hg1 := of_decide_eq_false hg1
    refine QOps.st rfl rfl (Yv.move rfl).yl ?_
    refine QOps.st rfl rfl (Yv.lenS el25s rfl).yl ?_
    refine QOps.st rfl rfl (Yv.gtr rfl rfl).yl ?_
    exact QOps.nil rfl
  refine QOps.nil ?_
  refine Run.cond rfl (fun hc1 => ?_) (fun hc1 => ?_)
  · try replace hc1 := of_decide_eq_true hc1
    refine Run.seq ?_
    refine Run.quiet (by intro h; cases h) ?_
    refine QOps.st rfl rfl (Yv.assign rfl).yl ?_
    refine QOps.nil ?_
    refine Run.ret ?_
    refine retQ.of (.inr rfl) rfl (.tmp rfl .nil) (fun w' hw' => ?_)
    refine ⟨?_, hw'.bel.below⟩
    refine retB_eq ?_
    cases hr : inB room 1 3
    · rw [are_room hr]
    · rw [hr] at hc1; rw [are_long (by simpa using hc1)]
  · try replace hc1 := of_decide_eq_false hc1
    refine Run.skip ?_
    refine Run.seq ?_
    refine Run.seq ?_
    refine Run.quiet (by intro h; cases h) ?_
    refine QOps.st rfl rfl (Yv.move rfl).yl ?_
    refine QOps.st rfl rfl (Yv.lenS el25s rfl).yl ?_
    refine QOps.st rfl rfl (Yv.move rfl).yl ?_
    refine QOps.nil ?_
    refine Run.block ?_
    refine Run.loop (S := Nat) (fun s => match s with | k => k ≤ bs.length ∧ ∀ i, i < k → badB room bs i = false) (fun s => match s with | k => [(0, .int .i64 room), (1, .slice A bs.length c), (15, .slice A bs.length c), (16, .int .i64 (bs.length : Int)), (17, .int .i64 (k : Int))]) (fun s => match s with | k => []) (fun s => match s with | k => bs.length - k) 0 ?_ (SubE.cons rfl (SubE.cons rfl (SubE.cons rfl (SubE.cons rfl (SubE.cons rfl (SubE.nil _)))))) (List.Sublist.refl _) ?_
    · exact ⟨by omega, fun i hi => by omega⟩
    · rintro k ⟨hk, hall⟩
      show Run _ _ _ _ _ [(0, .int .i64 room), (1, .slice A bs.length c), (15, .slice A bs.length c), (16, .int .i64 (bs.length : Int)), (17, .int .i64 (k : Int))] [] _
      refine Run.seq ?_
      refine Run.quiet (by intro h; cases h) ?_
      refine QOps.st rfl rfl (Yv.lss rfl rfl).yl ?_
      refine QOps.nil ?_
      refine Run.seq ?_
      refine Run.cond rfl (fun hc2 => ?_) (fun hc2 => ?_)
      · try replace hc2 := of_decide_eq_true hc2
        refine Run.skip ?_
        refine Run.seq ?_
        refine Run.block ?_
        refine Run.seq ?_
        refine Run.ops ?_
        refine SOps.st rfl rfl (Yv.move rfl).yl ?_
        refine SOps.st rfl rfl (Yv.indexAddr k el25 rfl rfl rfl (Rd.arg hs) (by omega)).yl ?_
        refine SOps.st rfl rfl (Yv.loadEs lay49 rfl Booking.len (Rd.arg hs) (by first | omega | (simp; omega)) (by decide)).yl ?_
        refine SOps.one rfl (One.alloc rfl zero49 (fun b1 => ?_))
        refine SOps.st rfl rfl (Yv.assign rfl).yl ?_
        refine SOps.one rfl (One.store (i := 0) (off := 0) (vs := [_, _, _, _]) (cs' := [_, _, _, _]) (H' := [_]) lay49 rfl rfl rfl rfl rfl rfl rfl rfl rfl rfl ?_)
        refine SOps.nil ?_
        refine Run.seq ?_
        refine Run.seq ?_
        refine Run.quiet (fun _ => ⟨by kernel_rfl, by kernel_rfl⟩) ?_
        refine QOps.st rfl rfl (Yv.fieldAddr fld49_0 rfl).yl ?_
        refine QOps.st rfl rfl (Yv.loadB (i := 0) lay3 rfl rfl rfl rfl).yl ?_
        refine QOps.st rfl rfl (Yl.call callable52 (.cons rfl (.cons rfl (.cons rfl (.nil)))) (fun w' hw' => inside_spec)) ?_
        refine QOps.st rfl rfl (Yv.not rfl).yl ?_
        refine QOps.st rfl rfl (Yv.move rfl).yl ?_
        refine' QOps.or [_, _, _, _] _ (.tmp 30) rfl rfl rfl rfl rfl rfl (fun hg2 => ?_) ?_
        rotate_left
        · try replace hg2 := of_decide_eq_false hg2
          refine QOps.st rfl rfl (Yv.fieldAddr fld49_1 rfl).yl ?_
          refine QOps.st rfl rfl (Yv.loadB (i := 0) lay3 rfl rfl rfl rfl).yl ?_
          refine QOps.st rfl rfl (Yl.call callable52 (.cons rfl (.cons rfl (.cons rfl (.nil)))) (fun w' hw' => inside_spec)) ?_
          refine QOps.st rfl rfl (Yv.not rfl).yl ?_
          exact QOps.nil rfl
        refine QOps.st rfl rfl (Yv.move rfl).yl ?_
        refine' QOps.or [_, _, _, _] _ (.tmp 36) rfl rfl rfl rfl rfl rfl (fun hg3 => ?_) ?_
        rotate_left
        · try replace hg3 := of_decide_eq_false hg3
          refine QOps.st rfl rfl (Yv.fieldAddr fld49_2 rfl).yl ?_
          refine QOps.st rfl rfl (Yv.loadB (i := 0) lay3 rfl rfl rfl rfl).yl ?_
          refine QOps.st rfl rfl (Yl.call callable53 (.cons rfl (.nil)) (fun w' hw' => isLockNumber_spec)) ?_
          refine QOps.st rfl rfl (Yv.not rfl).yl ?_
          exact QOps.nil rfl
        refine QOps.st rfl rfl (Yv.move rfl).yl ?_
        refine' QOps.or [_, _, _, _] _ (.tmp 42) rfl rfl rfl rfl rfl rfl (fun hg4 => ?_) ?_
        rotate_left
        · try replace hg4 := of_decide_eq_false hg4
          refine QOps.st rfl rfl (Yv.fieldAddr fld49_3 rfl).yl ?_
          refine QOps.st rfl rfl (Yv.loadB (i := 0) lay3 rfl rfl rfl rfl).yl ?_
          refine QOps.st rfl rfl (Yl.call callable54 (.cons rfl (.nil)) (fun w' hw' => isSlot_spec)) ?_
          refine QOps.st rfl rfl (Yv.not rfl).yl ?_
          exact QOps.nil rfl
        refine QOps.st rfl rfl (Yv.move rfl).yl ?_
        refine' QOps.or [_, _, _, _, _, _, _, _, _, _, _, _, _] _ (.tmp 57) rfl rfl rfl rfl rfl rfl (fun hg5 => ?_) ?_
        rotate_left
        · try replace hg5 := of_decide_eq_false hg5
          refine QOps.st rfl rfl (Yv.move rfl).yl ?_
          refine QOps.st rfl rfl (Yv.gtr rfl rfl).yl ?_
          refine QOps.st rfl rfl (Yv.move rfl).yl ?_
          refine' QOps.and [_, _, _, _, _, _, _, _, _] _ (.tmp 56) rfl rfl rfl rfl rfl rfl (fun hg6 => ?_) ?_
          rotate_left
          · try replace hg6 := of_decide_eq_true hg6
            refine QOps.st rfl rfl (Yv.move rfl).yl ?_
            refine QOps.st rfl rfl (Yv.move rfl).yl ?_
            refine QOps.st rfl rfl (Yv.sub rfl rfl (by omega)).yl ?_
            refine QOps.st rfl rfl (Yv.indexAddr (k - 1) el25 rfl rfl (by omega) (Rd.arg hs) (by omega)).yl ?_
            refine QOps.st rfl rfl (Yv.fieldAddr fld49_0 rfl).yl ?_
            refine QOps.st rfl rfl (Yv.loadF lay3 rfl Booking.len (Rd.arg hs) (by first | omega | (simp; omega)) (by decide) rfl).yl ?_
            refine QOps.st rfl rfl (Yv.fieldAddr fld49_0 rfl).yl ?_
            refine QOps.st rfl rfl (Yv.loadB (i := 0) lay3 rfl rfl rfl rfl).yl ?_
            refine QOps.st rfl rfl (Yv.geq rfl rfl).yl ?_
            exact QOps.nil rfl
          exact QOps.nil rfl
        refine QOps.nil ?_
        refine Run.cond rfl (fun hc3 => ?_) (fun hc3 => ?_)
        · try replace hc3 := of_decide_eq_true hc3
          have h3 : headB bs k = true := by rw [not4] at hc3; exact hc3
          refine Run.seq ?_
          refine Run.quiet (by intro h; cases h) ?_
          refine QOps.st rfl rfl (Yv.assign rfl).yl ?_
          refine QOps.nil ?_
          refine Run.ret ?_
          refine retQ.of (.inr rfl) rfl (.tmp rfl .nil) (fun w' hw' => ?_)
          refine ⟨?_, hw'.bel.below⟩
          refine retB_eq ?_
          rw [are_bad (k := k) (by omega) (by unfold badB; rw [h3]; rfl)]
        · try replace hc3 := of_decide_eq_false hc3
          have h3 : headB bs k = false := by rw [not4] at hc3; exact hc3
          refine Run.skip ?_
          refine Run.seq ?_
          refine Run.quiet (by intro h; cases h) ?_
          refine QOps.st rfl rfl (Yv.move rfl).yl ?_
          refine QOps.st rfl rfl (Yv.fieldAddr fld49_2 rfl).yl ?_
          refine QOps.st rfl rfl (Yv.loadB (i := 0) lay3 rfl rfl rfl rfl).yl ?_
          refine QOps.st rfl rfl (Yv.fieldAddr fld49_3 rfl).yl ?_
          refine QOps.st rfl rfl (Yv.loadB (i := 0) lay3 rfl rfl rfl rfl).yl ?_
          refine QOps.st rfl rfl (Yl.call callable55 (.cons rfl (.cons rfl (.cons rfl (.nil)))) (fun w' hw' => bookedIn_spec ((Rd.arg hs) w' hw'))) ?_
          refine QOps.st rfl rfl (Yv.move rfl).yl ?_
          refine QOps.st rfl rfl (Yv.gtr rfl rfl).yl ?_
          refine QOps.st rfl rfl (Yv.move rfl).yl ?_
          refine' QOps.or [_, _, _, _, _] _ (.tmp 72) rfl rfl rfl rfl rfl rfl (fun hg7 => ?_) ?_
          rotate_left
          · try replace hg7 := of_decide_eq_false hg7
            refine QOps.st rfl rfl (Yv.move rfl).yl ?_
            refine QOps.st rfl rfl (Yv.move rfl).yl ?_
            refine QOps.st rfl rfl (Yv.cutTo0 k el25 rfl rfl rfl (by omega)).yl ?_
            refine QOps.st rfl rfl (Yv.makeFunc .nil (.cons rfl (.nil))).yl ?_
            refine QOps.st rfl rfl (Yl.call callable56 (.cons rfl (.cons rfl (.nil))) (fun w' hw' => hasBooking_spec ((Rd.cut0 Booking.len (Rd.arg hs) (by omega)) w' hw') (by simp; omega) callable57 (fun w'' hb i hi => AreBookings1_spec (Rd.blkE Booking.len (i := 0) (x := nth bs k) rfl w'' (hw'.up hb))))) ?_
            exact QOps.nil rfl
          refine QOps.nil ?_
          refine Run.cond rfl (fun hc4 => ?_) (fun hc4 => ?_)
          · try replace hc4 := of_decide_eq_true hc4
            have hd : (allTo k fun i => !sameB (nth bs k) (nth (List.take k bs) i)) = allTo k (fun i => !sameB (nth bs k) (nth bs i)) := allTo_congr (fun i hi => by rw [nth_take hi])
            rw [hd] at hc4
            have h4 : (fullB room bs k || dupB bs k) = true := hc4
            refine Run.seq ?_
            refine Run.quiet (by intro h; cases h) ?_
            refine QOps.st rfl rfl (Yv.assign rfl).yl ?_
            refine QOps.nil ?_
            refine Run.ret ?_
            refine retQ.of (.inr rfl) rfl (.tmp rfl .nil) (fun w' hw' => ?_)
            refine ⟨?_, hw'.bel.below⟩
            refine retB_eq ?_
            rw [are_bad (k := k) (by omega) (by unfold badB; rw [h3, Bool.false_or]; exact h4)]
          · try replace hc4 := of_decide_eq_false hc4
            have hd : (allTo k fun i => !sameB (nth bs k) (nth (List.take k bs) i)) = allTo k (fun i => !sameB (nth bs k) (nth bs i)) := allTo_congr (fun i hi => by rw [nth_take hi])
            rw [hd] at hc4
            have h4 : (fullB room bs k || dupB bs k) = false := hc4
            refine Run.skip ?_
            refine Run.quiet (by intro h; cases h) ?_
            refine QOps.st rfl rfl (Yv.succN rfl rfl (by omega)).yl ?_
            refine QOps.st rfl rfl (Yv.move rfl).yl ?_
            refine QOps.nil ?_
            refine ⟨k + 1, ?_, ?_, (SubE.cons rfl (SubE.cons rfl (SubE.cons rfl (SubE.cons rfl (SubE.cons rfl (SubE.nil _)))))), (List.Sublist.cons _ (List.Sublist.refl _))⟩
            · exact ⟨by omega, all_succ hall (by unfold badB; rw [h3, Bool.false_or]; exact h4)⟩
            · first | omega | (dsimp only; omega)
      · try replace hc2 := of_decide_eq_false hc2
        refine Run.exit ?_
        refine Run.seq ?_
        refine Run.quiet (by intro h; cases h) ?_
        refine QOps.st rfl rfl (Yv.assign rfl).yl ?_
        refine QOps.nil ?_
        refine Run.ret ?_
        refine retQ.of (.inr rfl) rfl (.tmp rfl .nil) (fun w' hw' => ?_)
        refine ⟨?_, hw'.bel.below⟩
        refine retB_eq ?_
        rw [are_good (by cases hr : inB room 1 3 <;> simp_all) (by cases hr : inB room 1 3 <;> simp_all) (fun i hi => hall i (by omega))]
theorem l18Good_spec {w : World} {A : Option Addr} {c : Nat} {room : Int} {bs : List Booking} (hs : Sl w 4 A bs.length c (bs.flatMap Booking.enc)) :
    Calls Try.prog 50 #[.int .i64 room, .slice A bs.length c] w (RetB w (.bool (areBookings room bs))) := by
  have hmx := Sl.lenle hs
  refine calls_of_run (vs := [_, _]) (L := [(0, _), (1, _)]) (n := 79) (F := []) (H := []) Try.func50 rfl rfl rfl rfl (HOk.start _) ?_
  refine Run.seq ?_
  refine Run.quiet (by intro h; cases h) ?_
  refine QOps.st rfl rfl (Yv.assign rfl).yl ?_
  refine QOps.nil ?_
  refine Run.seq ?_
  refine Run.seq ?_
  refine Run.quiet (by intro h; cases h) ?_
  refine QOps.st rfl rfl (Yv.move rfl).yl ?_
  refine QOps.st rfl rfl (Yl.call callable66 (.cons rfl (.cons rfl (.cons rfl (.nil)))) (fun w' hw' => l1In_spec)) ?_
  refine QOps.st rfl rfl (Yv.not rfl).yl ?_
  refine QOps.nil ?_
  refine Run.cond rfl (fun hc1 => ?_) (fun hc1 => ?_)
  · try replace hc1 := of_decide_eq_true hc1
    refine Run.seq ?_
    refine Run.quiet (by intro h; cases h) ?_
    refine QOps.st rfl rfl (Yv.assign rfl).yl ?_
    refine QOps.nil ?_
    refine Run.ret ?_
    refine retQ.of (.inr rfl) rfl (.tmp rfl .nil) (fun w' hw' => ?_)
    refine ⟨?_, hw'.bel.below⟩
    refine retB_eq ?_
    rw [are_room (by simpa using hc1)]
  · try replace hc1 := of_decide_eq_false hc1
    refine Run.skip ?_
    refine Run.seq ?_
    refine Run.seq ?_
    refine Run.quiet (by intro h; cases h) ?_
    refine QOps.st rfl rfl (Yv.assign rfl).yl ?_
    refine QOps.nil ?_
    refine Run.block ?_
    refine Run.loop (S := Nat) (fun s => match s with | k => k ≤ bs.length ∧ k ≤ 11 ∧ ∀ i, i < k → badB room bs i = false) (fun s => match s with | k => [(0, .int .i64 room), (1, .slice A bs.length c), (5, .int .i64 (k : Int))]) (fun s => match s with | k => []) (fun s => match s with | k => bs.length - k) 0 ?_ (SubE.cons rfl (SubE.cons rfl (SubE.cons rfl (SubE.nil _)))) (List.Sublist.refl _) ?_
    · exact ⟨by omega, by omega, fun i hi => by omega⟩
    · rintro k ⟨hk, hk1, hall⟩
      show Run _ _ _ _ _ [(0, .int .i64 room), (1, .slice A bs.length c), (5, .int .i64 (k : Int))] [] _
      refine Run.seq ?_
      refine Run.seq ?_
      refine Run.quiet (by intro h; cases h) ?_
      refine QOps.st rfl rfl (Yv.move rfl).yl ?_
      refine QOps.st rfl rfl (Yv.move rfl).yl ?_
      refine QOps.st rfl rfl (Yv.lenS el25s rfl).yl ?_
      refine QOps.st rfl rfl (Yv.lss rfl rfl).yl ?_
      refine QOps.st rfl rfl (Yv.move rfl).yl ?_
      refine' QOps.and [_, _] _ (.tmp 17) rfl rfl rfl rfl rfl rfl (fun hg1 => ?_) ?_
      rotate_left
      · try replace hg1 := of_decide_eq_true hg1
        refine QOps.st rfl rfl (Yv.move rfl).yl ?_
        refine QOps.st rfl rfl (Yv.leq rfl rfl).yl ?_
        exact QOps.nil rfl
      refine QOps.nil ?_
      refine Run.cond rfl (fun hc2 => ?_) (fun hc2 => ?_)
      · try replace hc2 := of_decide_eq_true hc2
        simp only [Bool.and_eq_true, decide_eq_true_eq] at hc2
        refine Run.skip ?_
        refine Run.seq ?_
        refine Run.block ?_
        refine Run.seq ?_
        refine Run.ops ?_
        refine SOps.st rfl rfl (Yv.move rfl).yl ?_
        refine SOps.st rfl rfl (Yv.move rfl).yl ?_
        refine SOps.st rfl rfl (Yv.indexAddr k el25 rfl rfl rfl (Rd.arg hs) (by omega)).yl ?_
        refine SOps.st rfl rfl (Yv.loadEs lay49 rfl Booking.len (Rd.arg hs) (by first | omega | (simp; omega)) (by decide)).yl ?_
        refine SOps.one rfl (One.alloc rfl zero49 (fun b1 => ?_))
        refine SOps.one rfl (One.store (i := 0) (off := 0) (vs := [_, _, _, _]) (cs' := [_, _, _, _]) (H' := [_]) lay49 rfl rfl rfl rfl rfl rfl rfl rfl rfl rfl ?_)
        refine SOps.nil ?_
        refine Run.seq ?_
        refine Run.seq ?_
        refine Run.quiet (fun _ => ⟨by kernel_rfl, by kernel_rfl⟩) ?_
        refine QOps.st rfl rfl (Yv.loadBs (i := 0) lay49 rfl rfl rfl rfl).yl ?_
        refine QOps.st rfl rfl (Yl.call callable84 (.cons rfl (.nil)) (fun w' hw' => l18One_spec)) ?_
        refine QOps.st rfl rfl (Yv.not rfl).yl ?_
        refine QOps.st rfl rfl (Yv.move rfl).yl ?_
        refine' QOps.or [_, _, _, _, _, _, _, _, _, _, _, _, _] _ (.tmp 41) rfl rfl rfl rfl rfl rfl (fun hg2 => ?_) ?_
        rotate_left
        · try replace hg2 := of_decide_eq_false hg2
          refine QOps.st rfl rfl (Yv.move rfl).yl ?_
          refine QOps.st rfl rfl (Yv.gtr rfl rfl).yl ?_
          refine QOps.st rfl rfl (Yv.move rfl).yl ?_
          refine' QOps.and [_, _, _, _, _, _, _, _, _] _ (.tmp 40) rfl rfl rfl rfl rfl rfl (fun hg3 => ?_) ?_
          rotate_left
          · try replace hg3 := of_decide_eq_true hg3
            refine QOps.st rfl rfl (Yv.move rfl).yl ?_
            refine QOps.st rfl rfl (Yv.move rfl).yl ?_
            refine QOps.st rfl rfl (Yv.sub rfl rfl (by omega)).yl ?_
            refine QOps.st rfl rfl (Yv.indexAddr (k - 1) el25 rfl rfl (by omega) (Rd.arg hs) (by omega)).yl ?_
            refine QOps.st rfl rfl (Yv.fieldAddr fld49_0 rfl).yl ?_
            refine QOps.st rfl rfl (Yv.loadF lay3 rfl Booking.len (Rd.arg hs) (by first | omega | (simp; omega)) (by decide) rfl).yl ?_
            refine QOps.st rfl rfl (Yv.fieldAddr fld49_0 rfl).yl ?_
            refine QOps.st rfl rfl (Yv.loadB (i := 0) lay3 rfl rfl rfl rfl).yl ?_
            refine QOps.st rfl rfl (Yv.geq rfl rfl).yl ?_
            exact QOps.nil rfl
          exact QOps.nil rfl
        refine QOps.st rfl rfl (Yv.move rfl).yl ?_
        refine' QOps.or [_, _, _, _, _, _, _, _] _ (.tmp 51) rfl rfl rfl rfl rfl rfl (fun hg4 => ?_) ?_
        rotate_left
        · try replace hg4 := of_decide_eq_false hg4
          refine QOps.st rfl rfl (Yv.move rfl).yl ?_
          refine QOps.st rfl rfl (Yv.fieldAddr fld49_2 rfl).yl ?_
          refine QOps.st rfl rfl (Yv.loadB (i := 0) lay3 rfl rfl rfl rfl).yl ?_
          refine QOps.st rfl rfl (Yv.fieldAddr fld49_3 rfl).yl ?_
          refine QOps.st rfl rfl (Yv.loadB (i := 0) lay3 rfl rfl rfl rfl).yl ?_
          refine QOps.st rfl rfl (Yl.call callable60 (.cons rfl (.cons rfl (.cons rfl (.nil)))) (fun w' hw' => l18Used_spec ((Rd.arg hs) w' hw'))) ?_
          refine QOps.st rfl rfl (Yv.move rfl).yl ?_
          refine QOps.st rfl rfl (Yv.gtr rfl rfl).yl ?_
          exact QOps.nil rfl
        refine QOps.nil ?_
        refine Run.cond rfl (fun hc3 => ?_) (fun hc3 => ?_)
        · try replace hc3 := of_decide_eq_true hc3
          refine Run.seq ?_
          refine Run.quiet (by intro h; cases h) ?_
          refine QOps.st rfl rfl (Yv.assign rfl).yl ?_
          refine QOps.nil ?_
          refine Run.ret ?_
          refine retQ.of (.inr rfl) rfl (.tmp rfl .nil) (fun w' hw' => ?_)
          refine ⟨?_, hw'.bel.below⟩
          refine retB_eq ?_
          rw [are_bad (k := k) (by omega) (by unfold badB headB fullB; rw [hc3]; rfl)]
        · try replace hc3 := of_decide_eq_false hc3
          refine Run.skip ?_
          refine Run.seq ?_
          refine Run.quiet (by intro h; cases h) ?_
          refine QOps.st rfl rfl (Yv.assign rfl).yl ?_
          refine QOps.nil ?_
          refine Run.block ?_
          refine Run.loop (S := Nat) (fun s => match s with | j => j ≤ k ∧ ∀ i, i < j → sameB (nth bs k) (nth bs i) = false) (fun s => match s with | j => [(0, .int .i64 room), (1, .slice A bs.length c), (5, .int .i64 (k : Int)), (6, .pointer (some ⟨b1, 0, none⟩)), (7, .int .i64 (j : Int))]) (fun s => match s with | j => [.blk b1 49 (Booking.enc (nth bs (k)))]) (fun s => match s with | j => k - j) 0 ?_ (SubE.cons rfl (SubE.cons rfl (SubE.cons rfl (SubE.cons rfl (SubE.cons rfl (SubE.nil _)))))) (List.Sublist.refl _) ?_
          · exact ⟨by omega, fun i hi => by omega⟩
          · rintro j ⟨hj, hin⟩
            show Run _ _ _ _ _ [(0, .int .i64 room), (1, .slice A bs.length c), (5, .int .i64 (k : Int)), (6, .pointer (some ⟨b1, 0, none⟩)), (7, .int .i64 (j : Int))] [.blk b1 49 (Booking.enc (nth bs (k)))] _
            refine Run.seq ?_
            refine Run.seq ?_
            refine Run.quiet (by intro h; cases h) ?_
            refine QOps.st rfl rfl (Yv.move rfl).yl ?_
            refine QOps.st rfl rfl (Yv.move rfl).yl ?_
            refine QOps.st rfl rfl (Yv.lss rfl rfl).yl ?_
            refine QOps.nil ?_
            refine Run.cond rfl (fun hc4 => ?_) (fun hc4 => ?_)
            · try replace hc4 := of_decide_eq_true hc4
              refine Run.skip ?_
              refine Run.seq ?_
              refine Run.block ?_
              refine Run.seq ?_
              refine Run.quiet (fun _ => ⟨by kernel_rfl, by kernel_rfl⟩) ?_
              refine QOps.st rfl rfl (Yv.move rfl).yl ?_
              refine QOps.st rfl rfl (Yv.move rfl).yl ?_
              refine QOps.st rfl rfl (Yv.indexAddr j el25 rfl rfl rfl (Rd.arg hs) (by omega)).yl ?_
              refine QOps.st rfl rfl (Yv.fieldAddr fld49_1 rfl).yl ?_
              refine QOps.st rfl rfl (Yv.loadF lay3 rfl Booking.len (Rd.arg hs) (by first | omega | (simp; omega)) (by decide) rfl).yl ?_
              refine QOps.st rfl rfl (Yv.fieldAddr fld49_1 rfl).yl ?_
              refine QOps.st rfl rfl (Yv.loadB (i := 0) lay3 rfl rfl rfl rfl).yl ?_
              refine QOps.st rfl rfl (Yv.eqI rfl rfl).yl ?_
              refine QOps.st rfl rfl (Yv.move rfl).yl ?_
              refine' QOps.and [_, _, _, _, _, _, _, _] _ (.tmp 74) rfl rfl rfl rfl rfl rfl (fun hg5 => ?_) ?_
              rotate_left
              · try replace hg5 := of_decide_eq_true hg5
                refine QOps.st rfl rfl (Yv.move rfl).yl ?_
                refine QOps.st rfl rfl (Yv.move rfl).yl ?_
                refine QOps.st rfl rfl (Yv.indexAddr j el25 rfl rfl rfl (Rd.arg hs) (by omega)).yl ?_
                refine QOps.st rfl rfl (Yv.fieldAddr fld49_2 rfl).yl ?_
                refine QOps.st rfl rfl (Yv.loadF lay3 rfl Booking.len (Rd.arg hs) (by first | omega | (simp; omega)) (by decide) rfl).yl ?_
                refine QOps.st rfl rfl (Yv.fieldAddr fld49_2 rfl).yl ?_
                refine QOps.st rfl rfl (Yv.loadB (i := 0) lay3 rfl rfl rfl rfl).yl ?_
                refine QOps.st rfl rfl (Yv.eqI rfl rfl).yl ?_
                exact QOps.nil rfl
              refine QOps.nil ?_
              refine Run.cond rfl (fun hc5 => ?_) (fun hc5 => ?_)
              · try replace hc5 := of_decide_eq_true hc5
                refine Run.seq ?_
                refine Run.quiet (by intro h; cases h) ?_
                refine QOps.st rfl rfl (Yv.assign rfl).yl ?_
                refine QOps.nil ?_
                refine Run.ret ?_
                refine retQ.of (.inr rfl) rfl (.tmp rfl .nil) (fun w' hw' => ?_)
                refine ⟨?_, hw'.bel.below⟩
                refine retB_eq ?_
                rw [are_bad (k := k) (by omega) (by unfold badB dupB; rw [allTo_false (i := j) (by omega) (by rw [show sameB (nth bs k) (nth bs j) = true from hc5]; rfl)]; simp)]
              · try replace hc5 := of_decide_eq_false hc5
                refine Run.skip ?_
                refine Run.quiet (by intro h; cases h) ?_
                refine QOps.st rfl rfl (Yv.move rfl).yl ?_
                refine QOps.st rfl rfl (Yv.succN rfl rfl (by omega)).yl ?_
                refine QOps.st rfl rfl (Yv.assign rfl).yl ?_
                refine QOps.nil ?_
                refine ⟨j + 1, ?_, ?_, (SubE.cons rfl (SubE.cons rfl (SubE.cons rfl (SubE.cons rfl (SubE.cons rfl (SubE.nil _)))))), (List.Sublist.refl _)⟩
                · exact ⟨by omega, all_succ hin hc5⟩
                · first | omega | (dsimp only; omega)
            · try replace hc4 := of_decide_eq_false hc4
              refine Run.exit ?_
              refine Run.quiet (by intro h; cases h) ?_
              refine QOps.st rfl rfl (Yv.move rfl).yl ?_
              refine QOps.st rfl rfl (Yv.succN rfl rfl (by omega)).yl ?_
              refine QOps.st rfl rfl (Yv.assign rfl).yl ?_
              refine QOps.nil ?_
              refine ⟨k + 1, ?_, ?_, (SubE.cons rfl (SubE.cons rfl (SubE.cons rfl (SubE.nil _)))), (List.Sublist.cons _ (List.Sublist.refl _))⟩
              · exact ⟨by omega, by omega, all_succ hall (by unfold badB dupB; rw [allTo_iff.2 (fun i hi => by rw [hin i (by omega)]; rfl)]; simpa [headB, fullB] using hc3)⟩
              · first | omega | (dsimp only; omega)
      · try replace hc2 := of_decide_eq_false hc2
        refine Run.exit ?_
        refine Run.seq ?_
        refine Run.quiet (by intro h; cases h) ?_
        refine QOps.st rfl rfl (Yv.move rfl).yl ?_
        refine QOps.st rfl rfl (Yv.lenS el25s rfl).yl ?_
        refine QOps.st rfl rfl (Yv.leq rfl rfl).yl ?_
        refine QOps.st rfl rfl (Yv.assign rfl).yl ?_
        refine QOps.nil ?_
        refine Run.ret ?_
        refine retQ.of (.inr rfl) rfl (.tmp rfl .nil) (fun w' hw' => ?_)
        refine ⟨?_, hw'.bel.below⟩
        refine retB_eq ?_
        by_cases hlen : (bs.length : Int) ≤ 10
        · rw [are_good (by simpa using hc1) hlen (fun i hi => hall i (by simp at hc2; omega)), decide_eq_true hlen]
        · rw [are_long (by omega), decide_eq_false hlen]
theorem sAreBookings_spec {w : World} {A : Option Addr} {c : Nat} {bs : List Booking} {room : Int} (hs : Sl w 4 A bs.length c (bs.flatMap Booking.enc)) : Calls Try.prog 15 #[.int .i64 room, .slice A bs.length c] w (RetB w (.bool (areBookings room bs))) := by
  refine calls_of_run (vs := [_, _]) (L := [(0, _), (1, _)]) (n := 8) (F := []) (H := []) Try.func15 rfl rfl rfl rfl (HOk.start _) ?_
  refine Run.seq ?_
  refine Run.quiet (by intro h; cases h) ?_
  refine QOps.st rfl rfl (Yv.assign rfl).yl ?_
  refine QOps.nil ?_
  refine Run.seq ?_
  refine Run.quiet (by intro h; cases h) ?_
  refine QOps.st rfl rfl (Yv.move rfl).yl ?_
  refine QOps.st rfl rfl (Yv.move rfl).yl ?_
  refine QOps.st rfl rfl (Yl.call callable50 (.cons rfl (.cons rfl (.nil))) (fun w' hw' => l18Good_spec ((Rd.arg hs) w' hw'))) ?_
  refine QOps.st rfl rfl (Yv.assign rfl).yl ?_
  refine QOps.nil ?_
  refine Run.ret ?_
  refine retQ.of (.inr rfl) rfl (.tmp rfl .nil) (fun w' hw' => ?_)
  refine ⟨?_, hw'.bel.below⟩
  exact rfl

theorem FnExactAreBookings_spec {w : World} {A : Option Addr} {c : Nat} {bs : List Booking} {room : Int} (hs : Sl w 4 A bs.length c (bs.flatMap Booking.enc)) (hb : 32 * bs.length ≤ 281474976710656) :
    Calls Try.prog 3 #[.int .i64 room, .slice A bs.length c] w (RetB w (.bool true)) := by
  refine calls_of_run (vs := [_, _]) (L := [(0, _), (1, _)]) (n := 31) (F := []) (H := []) Try.func3 rfl rfl rfl rfl (HOk.start _) ?_
  refine Run.seq ?_
  refine Run.quiet (by intro h; cases h) ?_
  refine QOps.st rfl rfl (Yv.assign rfl).yl ?_
  refine QOps.nil ?_
  refine Run.seq ?_
  refine Run.quiet (by intro h; cases h) ?_
  refine QOps.st rfl rfl (Yv.assign rfl).yl ?_
  refine QOps.nil ?_
  refine Run.seq ?_
  refine Run.quiet (by intro h; cases h) ?_
  refine QOps.st rfl rfl (Yv.move rfl).yl ?_
  refine QOps.st rfl rfl (Yv.move rfl).yl ?_
  refine QOps.st rfl rfl (Yl.call callable14 (.cons rfl (.cons rfl (.nil))) (fun w' hw' => szBookingS_spec (by omega) (by omega) (by omega))) ?_
  refine QOps.st rfl rfl (Yv.assign rfl).yl ?_
  refine QOps.nil ?_
  refine Run.seq ?_
  refine Run.seq ?_
  refine Run.quiet (by intro h; cases h) ?_
  refine QOps.st rfl rfl (Yv.move rfl).yl ?_
  refine QOps.st rfl rfl (Yv.lss rfl rfl).yl ?_
  refine QOps.nil ?_
  refine Run.cond rfl (fun hc1 => ?_) (fun hc1 => ?_)
  · try replace hc1 := of_decide_eq_true hc1
    refine Run.seq ?_
    refine Run.quiet (by intro h; cases h) ?_
    refine QOps.st rfl rfl (Yv.assign rfl).yl ?_
    refine QOps.nil ?_
    refine Run.ret ?_
    refine retQ.of (.inr rfl) rfl (.tmp rfl .nil) (fun w' hw' => ?_)
    refine ⟨?_, hw'.bel.below⟩
    exact rfl
  · try replace hc1 := of_decide_eq_false hc1
    refine Run.skip ?_
    refine Run.seq ?_
    refine Run.ops ?_
    refine SOps.st rfl rfl (Yv.move rfl).yl ?_
    refine SOps.st rfl rfl (Yv.move rfl).yl ?_
    refine SOps.one rfl (One.callRow rfl callable16 (.cons rfl (.nil)) (fun w' hw' => toBookingS_spec ((Rd.arg hs) w' hw') (by omega)) (fun A1 c1 => ?_))
    refine SOps.st rfl rfl (Yl.call callable15 (.cons rfl (.cons rfl (.nil))) (fun w' hw' => sAreBookings_spec ((Rd.row (i := 0) rfl) w' hw'))) ?_
    refine SOps.st rfl rfl (Yv.assign rfl).yl ?_
    refine SOps.nil ?_
    refine Run.seq ?_
    refine Run.ops ?_
    refine SOps.st rfl rfl (Yv.move rfl).yl ?_
    refine SOps.one rfl (One.callRow rfl callable16 (.cons rfl (.nil)) (fun w' hw' => toBookingS_spec ((Rd.arg hs) w' hw') (by omega)) (fun A2 c2 => ?_))
    refine SOps.st rfl rfl (Yv.assign rfl).yl ?_
    refine SOps.nil ?_
    refine Run.seq ?_
    refine Run.quiet (by intro h; cases h) ?_
    refine QOps.st rfl rfl (Yv.move rfl).yl ?_
    refine QOps.st rfl rfl (Yv.move rfl).yl ?_
    refine QOps.st rfl rfl (Yl.call callable17 (.cons rfl (.cons rfl (.nil))) (fun w' hw' => AreBookings_spec ((Rd.row (i := 0) rfl) w' hw'))) ?_
    refine QOps.st rfl rfl (Yv.assign rfl).yl ?_
    refine QOps.nil ?_
    refine Run.seq ?_
    refine Run.seq ?_
    refine Run.quiet (by intro h; cases h) ?_
    refine QOps.st rfl rfl (Yv.move rfl).yl ?_
    refine QOps.st rfl rfl (Yv.move rfl).yl ?_
    refine QOps.st rfl rfl (Yv.neB bool4 rfl rfl).yl ?_
    refine QOps.nil ?_
    refine Run.cond rfl (fun hc2 => ?_) (fun hc2 => ?_)
    · exfalso
      first | (simp at hc2; done) | (simp at hc2; omega) | omega
    · try replace hc2 := of_decide_eq_false hc2
      refine Run.skip ?_
      refine Run.seq ?_
      refine Run.seq ?_
      refine Run.ops ?_
      refine SOps.st rfl rfl (Yv.move rfl).yl ?_
      refine SOps.st rfl rfl (Yv.move rfl).yl ?_
      refine SOps.one rfl (One.callRow rfl callable16 (.cons rfl (.nil)) (fun w' hw' => toBookingS_spec ((Rd.arg hs) w' hw') (by omega)) (fun A3 c3 => ?_))
      refine SOps.st rfl rfl (Yl.call callable18 (.cons rfl (.cons rfl (.nil))) (fun w' hw' => eqBookingS_spec ((Rd.row (i := 1) rfl) w' hw') ((Rd.row (i := 0) rfl) w' hw'))) ?_
      refine SOps.st rfl rfl (Yv.not rfl).yl ?_
      refine SOps.nil ?_
      refine Run.cond rfl (fun hc3 => ?_) (fun hc3 => ?_)
      · exfalso
        first | (simp at hc3; done) | (simp at hc3; omega) | omega
      · try replace hc3 := of_decide_eq_false hc3
        refine Run.skip ?_
        refine Run.seq ?_
        refine Run.quiet (by intro h; cases h) ?_
        refine QOps.st rfl rfl (Yv.assign rfl).yl ?_
        refine QOps.nil ?_
        refine Run.ret ?_
        refine retQ.of (.inr rfl) rfl (.tmp rfl .nil) (fun w' hw' => ?_)
        refine ⟨?_, hw'.bel.below⟩
        exact rfl

end Go.Proofs.Ythgekachgpcjbaa
