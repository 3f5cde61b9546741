/- Bookings: what the law of a booked and a cancelled slot draws. Conditions: none. -/
import Derived.Test.YthgekachgpcjbaaBoo7
namespace Go.Proofs.Ythgekachgpcjbaa
open Go.RowKit
set_option maxRecDepth 100000
theorem rBookings_spec {w : World} {A A2 : Option Addr} {c c2 : Nat} {l : List Booking} (hs : Sl w 4 A l.length c (l.flatMap Booking.enc)) (hs2 : Sl w 4 A2 l.length c2 (l.flatMap Booking.enc)) :
    Calls Try.prog 35 #[.slice A l.length c, .slice A2 l.length c2] w (RetB w (.bool true)) := by
  have hmx := Sl.lenle hs
  refine calls_of_run (vs := [_, _]) (L := [(0, _), (1, _)]) (n := 26) (F := []) (H := []) Try.func35 rfl rfl rfl rfl (HOk.start _) ?_
  refine Run.seq ?_
  refine Run.quiet (by intro h; cases h) ?_
  refine QOps.st rfl rfl (Yv.assign rfl).yl ?_
  refine QOps.nil ?_
  refine Run.seq ?_
  refine Run.seq ?_
  refine Run.quiet (by intro h; cases h) ?_
  refine QOps.st rfl rfl (Yv.move rfl).yl ?_
  refine QOps.st rfl rfl (Yv.lenS el25s rfl).yl ?_
  refine QOps.st rfl rfl (Yv.move rfl).yl ?_
  refine QOps.st rfl rfl (Yv.lenS el25s rfl).yl ?_
  refine QOps.st rfl rfl (Yv.neI rfl rfl).yl ?_
  refine QOps.nil ?_
  refine Run.cond rfl (fun hc1 => ?_) (fun hc1 => ?_)
  · exfalso
    simp at hc1
  · try replace hc1 := of_decide_eq_false hc1
    refine Run.skip ?_
    refine Run.seq ?_
    refine Run.seq ?_
    refine Run.quiet (by intro h; cases h) ?_
    refine QOps.st rfl rfl (Yv.assign rfl).yl ?_
    refine QOps.nil ?_
    refine Run.block ?_
    refine Run.loop (S := Nat) (fun s => match s with | k => k ≤ l.length) (fun s => match s with | k => [(0, .slice A l.length c), (1, .slice A2 l.length c2), (5, .int .i64 (k : Int))]) (fun s => match s with | k => []) (fun s => match s with | k => l.length - k) 0 ?_ (SubE.cons rfl (SubE.cons rfl (SubE.cons rfl (SubE.nil _)))) (List.Sublist.refl _) ?_
    · exact Nat.zero_le _
    · rintro k hk
      show Run _ _ _ _ _ [(0, .slice A l.length c), (1, .slice A2 l.length c2), (5, .int .i64 (k : Int))] [] _
      refine Run.seq ?_
      refine Run.seq ?_
      refine Run.quiet (by intro h; cases h) ?_
      refine QOps.st rfl rfl (Yv.move rfl).yl ?_
      refine QOps.st rfl rfl (Yv.move rfl).yl ?_
      refine QOps.st rfl rfl (Yv.lenS el25s rfl).yl ?_
      refine QOps.st rfl rfl (Yv.lss rfl rfl).yl ?_
      refine QOps.nil ?_
      refine Run.cond rfl (fun hc2 => ?_) (fun hc2 => ?_)
      · try replace hc2 := of_decide_eq_true hc2
        refine Run.skip ?_
        refine Run.seq ?_
        refine Run.block ?_
        refine Run.seq ?_
        refine Run.quiet (fun _ => ⟨by kernel_rfl, by kernel_rfl⟩) ?_
        refine QOps.st rfl rfl (Yv.move rfl).yl ?_
        refine QOps.st rfl rfl (Yv.move rfl).yl ?_
        refine QOps.st rfl rfl (Yv.indexAddr k el25 rfl rfl rfl (Rd.arg hs) (by omega)).yl ?_
        refine QOps.st rfl rfl (Yv.loadEs lay49 rfl Booking.len (Rd.arg hs) (by first | omega | (simp; omega)) (by decide)).yl ?_
        refine QOps.st rfl rfl (Yv.move rfl).yl ?_
        refine QOps.st rfl rfl (Yv.move rfl).yl ?_
        refine QOps.st rfl rfl (Yv.indexAddr k el25 rfl rfl rfl (Rd.arg hs2) (by omega)).yl ?_
        refine QOps.st rfl rfl (Yv.loadEs lay49 rfl Booking.len (Rd.arg hs2) (by first | omega | (simp; omega)) (by decide)).yl ?_
        refine QOps.st rfl rfl (Yv.neS scal49 rfl rfl rfl rfl).yl ?_
        refine QOps.nil ?_
        refine Run.cond rfl (fun hc3 => ?_) (fun hc3 => ?_)
        · exfalso
          simp [eqC, Booking.enc] at hc3
        · try replace hc3 := of_decide_eq_false hc3
          refine Run.skip ?_
          refine Run.quiet (by intro h; cases h) ?_
          refine QOps.st rfl rfl (Yv.move rfl).yl ?_
          refine QOps.st rfl rfl (Yv.succN rfl rfl (by omega)).yl ?_
          refine QOps.st rfl rfl (Yv.assign rfl).yl ?_
          refine QOps.nil ?_
          refine ⟨k + 1, ?_, ?_, (SubE.cons rfl (SubE.cons rfl (SubE.cons rfl (SubE.nil _)))), (List.Sublist.refl _)⟩
          · show k + 1 ≤ _; omega
          · first | omega | (dsimp only; omega)
      · try replace hc2 := of_decide_eq_false hc2
        refine Run.exit ?_
        refine Run.seq ?_
        refine Run.quiet (by intro h; cases h) ?_
        refine QOps.st rfl rfl (Yv.assign rfl).yl ?_
        refine QOps.nil ?_
        refine Run.ret ?_
        refine retQ.of (.inr rfl) rfl (.tmp rfl .nil) (fun w' hw' => ?_)
        refine ⟨?_, hw'.bel.below⟩
        exact rfl

theorem rBig_spec {w : World} {A : Option Addr} {n c : Nat} : Calls Try.prog 33 #[.slice A n c] w (RetB w (.bool (decide ((65536 : Int) < (n : Int))))) := by
  refine calls_of_run (vs := [_]) (L := [(0, _)]) (n := 6) (F := []) (H := []) Try.func33 rfl rfl rfl rfl (HOk.start _) ?_
  refine Run.seq ?_
  refine Run.quiet (by intro h; cases h) ?_
  refine QOps.st rfl rfl (Yv.assign rfl).yl ?_
  refine QOps.nil ?_
  refine Run.seq ?_
  refine Run.quiet (by intro h; cases h) ?_
  refine QOps.st rfl rfl (Yv.move rfl).yl ?_
  refine QOps.st rfl rfl (Yv.lenS el44s rfl).yl ?_
  refine QOps.st rfl rfl (Yv.gtr rfl rfl).yl ?_
  refine QOps.st rfl rfl (Yv.assign rfl).yl ?_
  refine QOps.nil ?_
  refine Run.ret ?_
  refine retQ.of (.inr rfl) rfl (.tmp rfl .nil) (fun w' hw' => ?_)
  refine ⟨?_, hw'.bel.below⟩
  exact rfl

theorem DrawBookSlot_spec {w : World} {A : Option Addr} {c : Nat} {xs : List UInt8} (hs : Sl w 1 A xs.length c (xs.flatMap byteC)) :
    Calls Try.prog 34 #[.slice A xs.length c] w (RetER w 49 4 Booking.enc (fun (x : Int × List Booking × Int × Int × Int) => x.2.1) (fun x v => .tuple #[.int .i64 x.1, v, .int .i64 x.2.2.1, .int .i64 x.2.2.2.1, .int .i64 x.2.2.2.2]) (fun x => x.2.1.length ≤ 20)) := by
  refine calls_of_run (vs := [_]) (L := [(0, _)]) (n := 26) (F := []) (H := []) Try.func34 rfl rfl rfl rfl (HOk.start _) ?_
  refine Run.seq ?_
  refine Run.quiet (by intro h; cases h) ?_
  refine QOps.st rfl rfl (Yv.assign rfl).yl ?_
  refine QOps.st rfl rfl (Yv.assign rfl).yl ?_
  refine QOps.st rfl rfl (Yv.assign rfl).yl ?_
  refine QOps.st rfl rfl (Yv.assign rfl).yl ?_
  refine QOps.st rfl rfl (Yv.assign rfl).yl ?_
  refine QOps.nil ?_
  refine Run.seq ?_
  refine Run.ops ?_
  refine SOps.st rfl rfl (Yv.move rfl).yl ?_
  refine SOps.st rfl rfl (Yv.buildG (pv := [(0, _)]) (cs := [_, _, _]) (fun l => match l with | [a0_0] => [a0_0, .int .i64 0, .int .u64 0] | _ => []) (.cons rfl (.nil)) rfl rfl (by kernel_rfl)).yl ?_
  refine SOps.one rfl (One.box (cs := [_, _, _]) rfl rfl rfl (fun b1 => ?_))
  refine SOps.st rfl rfl (Yv.assign rfl).yl ?_
  refine SOps.nil ?_
  refine Run.seq ?_
  refine Run.ops ?_
  refine SOps.st rfl rfl (Yv.move rfl).yl ?_
  refine SOps.one rfl (One.callC (i := 0) (H' := fun _ _ => [_]) rfl callable67 (.cons rfl (.nil)) rfl (fun w' hw' => room_spec (Cur.own hs (i := 0) rfl hw') (by omega) (by omega)) (fun _ _ => rfl) (fun x1 at1 sd1 _ ha1 hb1 => ?_))
  refine SOps.st rfl rfl (Yv.assign rfl).yl ?_
  refine SOps.nil ?_
  refine Run.seq ?_
  refine Run.ops ?_
  refine SOps.st rfl rfl (Yv.move rfl).yl ?_
  refine SOps.st rfl rfl (Yv.move rfl).yl ?_
  refine SOps.one rfl (One.callCR (i := 0) (H' := fun _ _ => [_]) rfl callable68 (.cons rfl (.cons rfl (.nil))) rfl (fun w' hw' => bookings_spec (Cur.own hs (i := 0) rfl hw') (by omega) (by omega)) (fun _ _ => rfl) (fun x2 Aq2 cq2 at2 sd2 hx2 ha2 hb2 => ?_))
  refine SOps.st rfl rfl (Yv.assign rfl).yl ?_
  refine SOps.nil ?_
  refine Run.seq ?_
  refine Run.ops ?_
  refine SOps.st rfl rfl (Yv.move rfl).yl ?_
  refine SOps.st rfl rfl (Yv.move rfl).yl ?_
  refine SOps.st rfl rfl (Yv.move rfl).yl ?_
  refine SOps.one rfl (One.callC (i := 1) (H' := fun _ _ => [_, _]) rfl callable69 (.cons rfl (.nil)) rfl (fun w' hw' => vessel18_spec (Cur.own hs (i := 1) rfl hw') (by omega) (by omega)) (fun _ _ => rfl) (fun x3 at3 sd3 _ ha3 hb3 => ?_))
  refine SOps.st rfl rfl (Yv.move rfl).yl ?_
  refine SOps.one rfl (One.callC (i := 1) (H' := fun _ _ => [_, _]) rfl callable70 (.cons rfl (.nil)) rfl (fun w' hw' => lock18_spec (Cur.own hs (i := 1) rfl hw') (by omega) (by omega)) (fun _ _ => rfl) (fun x4 at4 sd4 _ ha4 hb4 => ?_))
  refine SOps.st rfl rfl (Yv.move rfl).yl ?_
  refine SOps.one rfl (One.callC (i := 1) (H' := fun _ _ => [_, _]) rfl callable71 (.cons rfl (.nil)) rfl (fun w' hw' => slot18_spec (Cur.own hs (i := 1) rfl hw') (by omega) (by omega)) (fun _ _ => rfl) (fun x5 at5 sd5 _ ha5 hb5 => ?_))
  refine SOps.st rfl rfl (Yv.assign rfl).yl ?_
  refine SOps.st rfl rfl (Yv.assign rfl).yl ?_
  refine SOps.st rfl rfl (Yv.assign rfl).yl ?_
  refine SOps.st rfl rfl (Yv.assign rfl).yl ?_
  refine SOps.st rfl rfl (Yv.assign rfl).yl ?_
  refine SOps.nil ?_
  refine Run.ret ?_
  refine retQ.of (.inr rfl) rfl (.tmp rfl (.tmp rfl (.tmp rfl (.tmp rfl (.tmp rfl .nil))))) (fun w' hw' => ?_)
  exact retER_of ((x1, x2, x3, x4, x5)) (by first | rfl | simp) rfl (by omega) hw'.bel.below (hw'.ent _ (List.mem_of_getElem? (i := 0) rfl)) (fun b hb => (hw'.own _ (List.mem_of_getElem? (i := 0) rfl) b hb).elim id (by simp))

theorem DrawCancelBooking_spec {w : World} {A : Option Addr} {c : Nat} {xs : List UInt8} (hs : Sl w 1 A xs.length c (xs.flatMap byteC)) :
    Calls Try.prog 36 #[.slice A xs.length c] w (RetER w 49 4 Booking.enc (fun (x : Int × List Booking × Int) => x.2.1) (fun x v => .tuple #[.int .i64 x.1, v, .int .i64 x.2.2]) (fun x => x.2.1.length ≤ 20)) := by
  refine calls_of_run (vs := [_]) (L := [(0, _)]) (n := 21) (F := []) (H := []) Try.func36 rfl rfl rfl rfl (HOk.start _) ?_
  refine Run.seq ?_
  refine Run.quiet (by intro h; cases h) ?_
  refine QOps.st rfl rfl (Yv.assign rfl).yl ?_
  refine QOps.st rfl rfl (Yv.assign rfl).yl ?_
  refine QOps.st rfl rfl (Yv.assign rfl).yl ?_
  refine QOps.nil ?_
  refine Run.seq ?_
  refine Run.ops ?_
  refine SOps.st rfl rfl (Yv.move rfl).yl ?_
  refine SOps.st rfl rfl (Yv.buildG (pv := [(0, _)]) (cs := [_, _, _]) (fun l => match l with | [a0_0] => [a0_0, .int .i64 0, .int .u64 0] | _ => []) (.cons rfl (.nil)) rfl rfl (by kernel_rfl)).yl ?_
  refine SOps.one rfl (One.box (cs := [_, _, _]) rfl rfl rfl (fun b1 => ?_))
  refine SOps.st rfl rfl (Yv.assign rfl).yl ?_
  refine SOps.nil ?_
  refine Run.seq ?_
  refine Run.ops ?_
  refine SOps.st rfl rfl (Yv.move rfl).yl ?_
  refine SOps.one rfl (One.callC (i := 0) (H' := fun _ _ => [_]) rfl callable67 (.cons rfl (.nil)) rfl (fun w' hw' => room_spec (Cur.own hs (i := 0) rfl hw') (by omega) (by omega)) (fun _ _ => rfl) (fun x1 at1 sd1 _ ha1 hb1 => ?_))
  refine SOps.st rfl rfl (Yv.assign rfl).yl ?_
  refine SOps.nil ?_
  refine Run.seq ?_
  refine Run.ops ?_
  refine SOps.st rfl rfl (Yv.move rfl).yl ?_
  refine SOps.st rfl rfl (Yv.move rfl).yl ?_
  refine SOps.one rfl (One.callCR (i := 0) (H' := fun _ _ => [_]) rfl callable68 (.cons rfl (.cons rfl (.nil))) rfl (fun w' hw' => bookings_spec (Cur.own hs (i := 0) rfl hw') (by omega) (by omega)) (fun _ _ => rfl) (fun x2 Aq2 cq2 at2 sd2 hx2 ha2 hb2 => ?_))
  refine SOps.st rfl rfl (Yv.assign rfl).yl ?_
  refine SOps.nil ?_
  refine Run.seq ?_
  refine Run.ops ?_
  refine SOps.st rfl rfl (Yv.move rfl).yl ?_
  refine SOps.st rfl rfl (Yv.move rfl).yl ?_
  refine SOps.st rfl rfl (Yv.move rfl).yl ?_
  refine SOps.st rfl rfl (Yv.move rfl).yl ?_
  refine SOps.one rfl (One.callC (i := 1) (H' := fun _ _ => [_, _]) rfl callable72 (.cons rfl (.cons rfl (.nil))) rfl (fun w' hw' => number18_spec (Cur.own hs (i := 1) rfl hw') (by omega) (by omega) (l := x2) ((Rd.row (i := 0) rfl) w' hw') (by first | rfl | simp) (by omega) (fun hm => HOk.rowNe hw' (i := 1) (j := 0) rfl rfl rfl (by first | exact hm | omega))) (fun _ _ => rfl) (fun x3 at3 sd3 _ ha3 hb3 => ?_))
  refine SOps.st rfl rfl (Yv.assign rfl).yl ?_
  refine SOps.st rfl rfl (Yv.assign rfl).yl ?_
  refine SOps.st rfl rfl (Yv.assign rfl).yl ?_
  refine SOps.nil ?_
  refine Run.ret ?_
  refine retQ.of (.inr rfl) rfl (.tmp rfl (.tmp rfl (.tmp rfl .nil))) (fun w' hw' => ?_)
  exact retER_of ((x1, x2, x3)) (by first | rfl | simp) rfl (by omega) hw'.bel.below (hw'.ent _ (List.mem_of_getElem? (i := 0) rfl)) (fun b hb => (hw'.own _ (List.mem_of_getElem? (i := 0) rfl) b hb).elim id (by simp))

theorem DrawMoveBooking_spec {w : World} {A : Option Addr} {c : Nat} {xs : List UInt8} (hs : Sl w 1 A xs.length c (xs.flatMap byteC)) :
    Calls Try.prog 37 #[.slice A xs.length c] w (RetER w 49 4 Booking.enc (fun (x : Int × List Booking × Int × Int) => x.2.1) (fun x v => .tuple #[.int .i64 x.1, v, .int .i64 x.2.2.1, .int .i64 x.2.2.2]) (fun x => x.2.1.length ≤ 20)) := by
  refine calls_of_run (vs := [_]) (L := [(0, _)]) (n := 26) (F := []) (H := []) Try.func37 rfl rfl rfl rfl (HOk.start _) ?_
  refine Run.seq ?_
  refine Run.quiet (by intro h; cases h) ?_
  refine QOps.st rfl rfl (Yv.assign rfl).yl ?_
  refine QOps.st rfl rfl (Yv.assign rfl).yl ?_
  refine QOps.st rfl rfl (Yv.assign rfl).yl ?_
  refine QOps.st rfl rfl (Yv.assign rfl).yl ?_
  refine QOps.nil ?_
  refine Run.seq ?_
  refine Run.ops ?_
  refine SOps.st rfl rfl (Yv.move rfl).yl ?_
  refine SOps.st rfl rfl (Yv.buildG (pv := [(0, _)]) (cs := [_, _, _]) (fun l => match l with | [a0_0] => [a0_0, .int .i64 0, .int .u64 0] | _ => []) (.cons rfl (.nil)) rfl rfl (by kernel_rfl)).yl ?_
  refine SOps.one rfl (One.box (cs := [_, _, _]) rfl rfl rfl (fun b1 => ?_))
  refine SOps.st rfl rfl (Yv.assign rfl).yl ?_
  refine SOps.nil ?_
  refine Run.seq ?_
  refine Run.ops ?_
  refine SOps.st rfl rfl (Yv.move rfl).yl ?_
  refine SOps.one rfl (One.callC (i := 0) (H' := fun _ _ => [_]) rfl callable67 (.cons rfl (.nil)) rfl (fun w' hw' => room_spec (Cur.own hs (i := 0) rfl hw') (by omega) (by omega)) (fun _ _ => rfl) (fun x1 at1 sd1 _ ha1 hb1 => ?_))
  refine SOps.st rfl rfl (Yv.assign rfl).yl ?_
  refine SOps.nil ?_
  refine Run.seq ?_
  refine Run.ops ?_
  refine SOps.st rfl rfl (Yv.move rfl).yl ?_
  refine SOps.st rfl rfl (Yv.move rfl).yl ?_
  refine SOps.one rfl (One.callCR (i := 0) (H' := fun _ _ => [_]) rfl callable68 (.cons rfl (.cons rfl (.nil))) rfl (fun w' hw' => bookings_spec (Cur.own hs (i := 0) rfl hw') (by omega) (by omega)) (fun _ _ => rfl) (fun x2 Aq2 cq2 at2 sd2 hx2 ha2 hb2 => ?_))
  refine SOps.st rfl rfl (Yv.assign rfl).yl ?_
  refine SOps.nil ?_
  refine Run.seq ?_
  refine Run.ops ?_
  refine SOps.st rfl rfl (Yv.move rfl).yl ?_
  refine SOps.st rfl rfl (Yv.move rfl).yl ?_
  refine SOps.one rfl (One.callC (i := 1) (H' := fun _ _ => [_, _]) rfl callable72 (.cons rfl (.cons rfl (.nil))) rfl (fun w' hw' => number18_spec (Cur.own hs (i := 1) rfl hw') (by omega) (by omega) (l := x2) ((Rd.row (i := 0) rfl) w' hw') (by first | rfl | simp) (by omega) (fun hm => HOk.rowNe hw' (i := 1) (j := 0) rfl rfl rfl (by first | exact hm | omega))) (fun _ _ => rfl) (fun x3 at3 sd3 _ ha3 hb3 => ?_))
  refine SOps.st rfl rfl (Yv.assign rfl).yl ?_
  refine SOps.nil ?_
  refine Run.seq ?_
  refine Run.ops ?_
  refine SOps.st rfl rfl (Yv.move rfl).yl ?_
  refine SOps.st rfl rfl (Yv.move rfl).yl ?_
  refine SOps.st rfl rfl (Yv.move rfl).yl ?_
  refine SOps.st rfl rfl (Yv.move rfl).yl ?_
  refine SOps.one rfl (One.callC (i := 1) (H' := fun _ _ => [_, _]) rfl callable71 (.cons rfl (.nil)) rfl (fun w' hw' => slot18_spec (Cur.own hs (i := 1) rfl hw') (by omega) (by omega)) (fun _ _ => rfl) (fun x4 at4 sd4 _ ha4 hb4 => ?_))
  refine SOps.st rfl rfl (Yv.assign rfl).yl ?_
  refine SOps.st rfl rfl (Yv.assign rfl).yl ?_
  refine SOps.st rfl rfl (Yv.assign rfl).yl ?_
  refine SOps.st rfl rfl (Yv.assign rfl).yl ?_
  refine SOps.nil ?_
  refine Run.ret ?_
  refine retQ.of (.inr rfl) rfl (.tmp rfl (.tmp rfl (.tmp rfl (.tmp rfl .nil)))) (fun w' hw' => ?_)
  exact retER_of ((x1, x2, x3, x4)) (by first | rfl | simp) rfl (by omega) hw'.bel.below (hw'.ent _ (List.mem_of_getElem? (i := 0) rfl)) (fun b hb => (hw'.own _ (List.mem_of_getElem? (i := 0) rfl) b hb).elim id (by simp))

theorem DrawSlotRoom_spec {w : World} {A : Option Addr} {c : Nat} {xs : List UInt8} (hs : Sl w 1 A xs.length c (xs.flatMap byteC)) :
    Calls Try.prog 38 #[.slice A xs.length c] w (RetER w 49 4 Booking.enc (fun (x : Int × List Booking × Int × Int) => x.2.1) (fun x v => .tuple #[.int .i64 x.1, v, .int .i64 x.2.2.1, .int .i64 x.2.2.2]) (fun x => x.2.1.length ≤ 20)) := by
  refine calls_of_run (vs := [_]) (L := [(0, _)]) (n := 23) (F := []) (H := []) Try.func38 rfl rfl rfl rfl (HOk.start _) ?_
  refine Run.seq ?_
  refine Run.quiet (by intro h; cases h) ?_
  refine QOps.st rfl rfl (Yv.assign rfl).yl ?_
  refine QOps.st rfl rfl (Yv.assign rfl).yl ?_
  refine QOps.st rfl rfl (Yv.assign rfl).yl ?_
  refine QOps.st rfl rfl (Yv.assign rfl).yl ?_
  refine QOps.nil ?_
  refine Run.seq ?_
  refine Run.ops ?_
  refine SOps.st rfl rfl (Yv.move rfl).yl ?_
  refine SOps.st rfl rfl (Yv.buildG (pv := [(0, _)]) (cs := [_, _, _]) (fun l => match l with | [a0_0] => [a0_0, .int .i64 0, .int .u64 0] | _ => []) (.cons rfl (.nil)) rfl rfl (by kernel_rfl)).yl ?_
  refine SOps.one rfl (One.box (cs := [_, _, _]) rfl rfl rfl (fun b1 => ?_))
  refine SOps.st rfl rfl (Yv.assign rfl).yl ?_
  refine SOps.nil ?_
  refine Run.seq ?_
  refine Run.ops ?_
  refine SOps.st rfl rfl (Yv.move rfl).yl ?_
  refine SOps.one rfl (One.callC (i := 0) (H' := fun _ _ => [_]) rfl callable67 (.cons rfl (.nil)) rfl (fun w' hw' => room_spec (Cur.own hs (i := 0) rfl hw') (by omega) (by omega)) (fun _ _ => rfl) (fun x1 at1 sd1 _ ha1 hb1 => ?_))
  refine SOps.st rfl rfl (Yv.assign rfl).yl ?_
  refine SOps.nil ?_
  refine Run.seq ?_
  refine Run.ops ?_
  refine SOps.st rfl rfl (Yv.move rfl).yl ?_
  refine SOps.st rfl rfl (Yv.move rfl).yl ?_
  refine SOps.one rfl (One.callCR (i := 0) (H' := fun _ _ => [_]) rfl callable68 (.cons rfl (.cons rfl (.nil))) rfl (fun w' hw' => bookings_spec (Cur.own hs (i := 0) rfl hw') (by omega) (by omega)) (fun _ _ => rfl) (fun x2 Aq2 cq2 at2 sd2 hx2 ha2 hb2 => ?_))
  refine SOps.st rfl rfl (Yv.assign rfl).yl ?_
  refine SOps.nil ?_
  refine Run.seq ?_
  refine Run.ops ?_
  refine SOps.st rfl rfl (Yv.move rfl).yl ?_
  refine SOps.st rfl rfl (Yv.move rfl).yl ?_
  refine SOps.st rfl rfl (Yv.move rfl).yl ?_
  refine SOps.one rfl (One.callC (i := 1) (H' := fun _ _ => [_, _]) rfl callable70 (.cons rfl (.nil)) rfl (fun w' hw' => lock18_spec (Cur.own hs (i := 1) rfl hw') (by omega) (by omega)) (fun _ _ => rfl) (fun x3 at3 sd3 _ ha3 hb3 => ?_))
  refine SOps.st rfl rfl (Yv.move rfl).yl ?_
  refine SOps.one rfl (One.callC (i := 1) (H' := fun _ _ => [_, _]) rfl callable71 (.cons rfl (.nil)) rfl (fun w' hw' => slot18_spec (Cur.own hs (i := 1) rfl hw') (by omega) (by omega)) (fun _ _ => rfl) (fun x4 at4 sd4 _ ha4 hb4 => ?_))
  refine SOps.st rfl rfl (Yv.assign rfl).yl ?_
  refine SOps.st rfl rfl (Yv.assign rfl).yl ?_
  refine SOps.st rfl rfl (Yv.assign rfl).yl ?_
  refine SOps.st rfl rfl (Yv.assign rfl).yl ?_
  refine SOps.nil ?_
  refine Run.ret ?_
  refine retQ.of (.inr rfl) rfl (.tmp rfl (.tmp rfl (.tmp rfl (.tmp rfl .nil)))) (fun w' hw' => ?_)
  exact retER_of ((x1, x2, x3, x4)) (by first | rfl | simp) rfl (by omega) hw'.bel.below (hw'.ent _ (List.mem_of_getElem? (i := 0) rfl)) (fun b hb => (hw'.own _ (List.mem_of_getElem? (i := 0) rfl) b hb).elim id (by simp))

/-! What a booked slot is -/
theorem bookOf_shape {room v lock slot : Int} {bs : List Booking} (h : (bookOf room bs v lock slot).2.2 = true) :
    areBookings room bs = true ∧ slotOk lock slot = true ∧ areBookings room (bookedB room bs v lock slot) = true ∧ bookOf room bs v lock slot = (bookedB room bs v lock slot, nextNo bs, true) := by
  unfold bookOf at h ⊢
  split at h
  · rename_i h1
    rw [if_pos h1]
    rw [Bool.and_eq_true] at h1
    split at h
    · rename_i h2
      rw [if_pos h2]
      exact ⟨h1.1, h1.2, h2, rfl⟩
    · cases h
  · cases h
theorem nth_last {α : Type} [Inhabited α] {l : List α} {x : α} : nth (l ++ [x]) ((l ++ [x]).length - 1) = x := by simp [nth]
theorem nth_app {α : Type} [Inhabited α] {l : List α} {x : α} {i : Nat} (h : i < l.length) : nth (l ++ [x]) i = nth l i := by simp [nth, List.getElem?_append_left h]
theorem usedTo_app {bs : List Booking} {b : Booking} {l s : Int} : ∀ {k : Nat}, k ≤ bs.length → usedTo (bs ++ [b]) l s k = usedTo bs l s k
  | 0, _ => rfl
  | k + 1, h => by rw [usedTo, usedTo, usedTo_app (by omega), nth_app (by omega)]
theorem used_more {bs : List Booking} {b : Booking} : usedTo (bs ++ [b]) b.lock b.slot (bs ++ [b]).length = usedTo bs b.lock b.slot bs.length + 1 := by
  rw [show (bs ++ [b]).length = bs.length + 1 by simp, usedTo, usedTo_app (Nat.le_refl _)]
  have h : nth (bs ++ [b]) bs.length = b := by simp [nth]
  rw [h, if_pos (by simp)]
theorem freeGo_ge {room lock : Int} {bs : List Booking} : ∀ {f : Nat} {s : Int}, s ≤ freeGo room bs lock f s
  | 0, _ => Int.le_refl _
  | f + 1, s => by
    rw [freeGo]
    split
    · have := freeGo_ge (room := room) (lock := lock) (bs := bs) (f := f) (s := s + 1)
      omega
    · exact Int.le_refl _
theorem freeGo_full {room lock : Int} {bs : List Booking} : ∀ {f : Nat} {s i : Int}, s ≤ i → i < freeGo room bs lock f s → fullS room bs lock i = true
  | 0, s, i, h1, h2 => by simp only [freeGo] at h2; omega
  | f + 1, s, i, h1, h2 => by
    rw [freeGo] at h2
    split at h2
    · rename_i h
      rcases Int.lt_or_le s i with h3 | h3
      · exact freeGo_full (by omega) h2
      · have : i = s := by omega
        rw [this]; exact h
    · omega
theorem are_asc {room : Int} {bs : List Booking} (h : areBookings room bs = true) : ∀ {j i : Nat}, i < j → j < bs.length → (nth bs i).number < (nth bs j).number
  | 0, i, hi, _ => by omega
  | j + 1, i, hi, hj => by
    have hb := (are_parts h).2.2 (j + 1) hj
    simp only [badB, headB, Bool.or_eq_false_iff, Bool.and_eq_false_iff, decide_eq_false_iff_not, Nat.add_sub_cancel] at hb
    have h1 : (nth bs j).number < (nth bs (j + 1)).number := by
      rcases hb.1.1.2 with h2 | h2 <;> omega
    rcases Nat.lt_or_ge i j with h2 | h2
    · have := are_asc h h2 (by omega)
      omega
    · have : i = j := by omega
      rw [this]; exact h1
theorem nextNo_gt {room : Int} {bs : List Booking} (h : areBookings room bs = true) {i : Nat} (hi : i < bs.length) : (nth bs i).number < nextNo bs := by
  unfold nextNo
  rw [if_pos (by omega)]
  rcases Nat.lt_or_ge i (bs.length - 1) with h1 | h1
  · have := are_asc h h1 (by omega)
    omega
  · have : i = bs.length - 1 := by omega
    rw [this]; omega
theorem cancel_back {room v lock slot : Int} {bs : List Booking} (h : areBookings room bs = true) (h2 : areBookings room (bookedB room bs v lock slot) = true) : cancelOf room (bookedB room bs v lock slot) (nextNo bs) = (bs, true) := by
  have hi : idxV (bookedB room bs v lock slot) (nextNo bs) = (bs.length : Int) := by
    unfold idxV
    rw [firstTo_some (k := bs.length) (by simp [bookedB]) (by simp [bookedB, nth]) (fun i hi => by
      have h3 := nextNo_gt h hi
      unfold bookedB
      rw [nth_app hi]
      exact decide_eq_false (by omega))]
  rw [cancelOf_yes h2 hi]
  simp [bookedB]
/-- In bookings as they should be a full slot has just its room. -/
theorem full_room {room lock s : Int} {bs : List Booking} (h : areBookings room bs = true) (hf : fullS room bs lock s = true) : room - usedTo bs lock s bs.length = 0 := by
  have hp := are_parts h
  simp only [fullS, Bool.and_eq_true, decide_eq_true_eq] at hf
  obtain ⟨j, h1, rfl, rfl⟩ := usedTo_ex (bs := bs) (l := lock) (s := s) (k := bs.length) (by omega)
  have hb := hp.2.2 j h1
  simp only [badB, fullB, Bool.or_eq_false_iff, decide_eq_false_iff_not] at hb
  omega
structure Booked (room : Int) (bs : List Booking) (v lock slot : Int) : Prop where
  is_ : bookOf room bs v lock slot = (bookedB room bs v lock slot, nextNo bs, true)
  ok : areBookings room (bookedB room bs v lock slot) = true
  last : nth (bookedB room bs v lock slot) ((bookedB room bs v lock slot).length - 1) = ⟨nextNo bs, v, lock, freeOf room bs lock slot⟩
  before : roomOf room bs lock (freeOf room bs lock slot) = (room - usedTo bs lock (freeOf room bs lock slot) bs.length, true)
  after : roomOf room (bookedB room bs v lock slot) lock (freeOf room bs lock slot) = (room - usedTo bs lock (freeOf room bs lock slot) bs.length - 1, true)
  used : 0 ≤ usedTo bs lock (freeOf room bs lock slot) bs.length ∧ usedTo bs lock (freeOf room bs lock slot) bs.length ≤ 10
  room_ : 1 ≤ room ∧ room ≤ 3
  len : (bookedB room bs v lock slot).length = bs.length + 1 ∧ bs.length ≤ 9
  back : cancelOf room (bookedB room bs v lock slot) (nextNo bs) = (bs, true)
  ge : slot ≤ freeOf room bs lock slot ∧ freeOf room bs lock slot ≤ 47 ∧ 0 ≤ slot
  none_ : ∀ i, slot ≤ i → i < freeOf room bs lock slot → roomOf room bs lock i = (0, true)
theorem booked {room v lock slot : Int} {bs : List Booking} (h : (bookOf room bs v lock slot).2.2 = true) : Booked room bs v lock slot := by
  obtain ⟨hA, hS, hA2, hB⟩ := bookOf_shape h
  have h1 := last_one (b := ⟨nextNo bs, v, lock, freeOf room bs lock slot⟩) hA2
  have hlen := (are_parts hA2).2.1
  have hl : (bookedB room bs v lock slot).length = bs.length + 1 := by simp [bookedB]
  simp only [oneB, Bool.and_eq_true] at h1
  have hr := (are_parts hA).1
  have hu := usedTo_range (bs := bs) (lock := lock) (slot := freeOf room bs lock slot) (k := bs.length)
  have hso := h1.2
  simp only [slotOk, Bool.and_eq_true, inB_iff] at hso hS
  refine ⟨hB, hA2, nth_last, ?_, ?_, by omega, hr, by omega, cancel_back hA hA2, ⟨freeGo_ge, by omega, by omega⟩, fun i hi1 hi2 => ?_⟩
  · unfold roomOf
    rw [if_pos (by rw [hA, h1.2]; rfl)]
  · unfold roomOf
    rw [if_pos (by rw [hA2, h1.2]; rfl)]
    have := used_more (bs := bs) (b := ⟨nextNo bs, v, lock, freeOf room bs lock slot⟩)
    unfold bookedB
    rw [this]
    congr 1
    dsimp only
    omega
  · have hf := freeGo_full hi1 hi2
    have hsl : slotOk lock i = true := by
      simp only [fullS, Bool.and_eq_true, inB_iff] at hf
      simp only [slotOk, Bool.and_eq_true, inB_iff]
      omega
    unfold roomOf
    rw [if_pos (by rw [hA, hsl]; rfl), full_room hA hf]
theorem move_good {room number slot : Int} {bs : List Booking} (h : (moveOf room bs number slot).2 = true) : areBookings room (moveOf room bs number slot).1 = true := by
  unfold moveOf at h ⊢
  split at h
  · rename_i h1
    rw [if_pos h1]
    split at h
    · cases h
    · rename_i h2
      rw [if_neg h2]
      split at h
      · rename_i h3
        rw [if_pos h3]
        exact h3
      · cases h
  · cases h
end Go.Proofs.Ythgekachgpcjbaa
