/- Bookings: a slot is booked. Conditions: none. -/
import Derived.Test.YthgekachgpcjbaaBoo3
namespace Go.Proofs.Ythgekachgpcjbaa
open Go.RowKit
set_option maxRecDepth 100000
/-- A slot that is one, but full. -/
def fullS (room : Int) (bs : List Booking) (lock s : Int) : Bool := inB s 0 47 && decide (room ≤ usedTo bs lock s bs.length)
def freeGo (room : Int) (bs : List Booking) (lock : Int) : Nat → Int → Int
  | 0, s => s
  | f + 1, s => if fullS room bs lock s = true then freeGo room bs lock f (s + 1) else s
/-- The first slot from one on that is free, or that is none. -/
def freeOf (room : Int) (bs : List Booking) (lock s : Int) : Int := freeGo room bs lock (48 - s).toNat s
theorem freeOf_step {room lock s : Int} {bs : List Booking} (h : fullS room bs lock s = true) : freeOf room bs lock (s + 1) = freeOf room bs lock s := by
  have h1 : s ≤ 47 := by
    simp only [fullS, Bool.and_eq_true, inB_iff] at h
    omega
  unfold freeOf
  have e : (48 - s).toNat = (48 - (s + 1)).toNat + 1 := by omega
  rw [e, freeGo, if_pos h]
theorem freeOf_stop {room lock s : Int} {bs : List Booking} (h : fullS room bs lock s = false) : freeOf room bs lock s = s := by
  unfold freeOf
  cases (48 - s).toNat with
  | zero => rfl
  | succ n => rw [freeGo, if_neg (by rw [h]; simp)]
def nextNo (bs : List Booking) : Int := if 0 < bs.length then (nth bs (bs.length - 1)).number + 1 else 1
/-- What a booking of a slot makes of the bookings. -/
def bookedB (room : Int) (bs : List Booking) (v lock slot : Int) : List Booking := bs ++ [⟨nextNo bs, v, lock, freeOf room bs lock slot⟩]
def bookOf (room : Int) (bs : List Booking) (v lock slot : Int) : List Booking × Int × Bool :=
  if (areBookings room bs && slotOk lock slot) = true then (if areBookings room (bookedB room bs v lock slot) = true then (bookedB room bs v lock slot, nextNo bs, true) else ([], 0, false)) else ([], 0, false)
theorem bookOf_len {room v lock slot : Int} {bs : List Booking} : (bookOf room bs v lock slot).1.length ≤ 10 := by
  unfold bookOf
  split
  · split
    · rename_i h
      exact (are_parts h).2.1
    · simp
  · simp
theorem last_one {room : Int} {bs : List Booking} {b : Booking} (h : areBookings room (bs ++ [b]) = true) : oneB b = true := by
  have h1 := bad_head ((are_parts h).2.2 bs.length (by simp))
  simpa [nth] using h1
theorem bookOf_no {room v lock slot : Int} {bs : List Booking} (h : (areBookings room bs && slotOk lock slot) = false) : bookOf room bs v lock slot = ([], 0, false) := by
  unfold bookOf
  rw [if_neg (by rw [h]; simp)]
theorem bookOf_v {room v lock slot : Int} {bs : List Booking} (h : inB v 1 99 = false) : bookOf room bs v lock slot = ([], 0, false) := by
  unfold bookOf
  split
  · rw [if_neg]
    intro h2
    have := last_one h2
    simp only [oneB, h, Bool.and_false, Bool.false_and] at this
    cases this
  · rfl
theorem bookOf_bad {room v lock slot m : Int} {bs : List Booking} (hm : nextNo bs = m) (h : areBookings room (bs ++ [⟨m, v, lock, freeOf room bs lock slot⟩]) = false) : bookOf room bs v lock slot = ([], 0, false) := by
  subst hm
  unfold bookOf bookedB
  split
  · rw [if_neg (by rw [h]; simp)]
  · rfl
theorem bookOf_yes {room v lock slot m : Int} {bs : List Booking} (hy : (areBookings room bs && slotOk lock slot) = true) (hm : nextNo bs = m) (h : areBookings room (bs ++ [⟨m, v, lock, freeOf room bs lock slot⟩]) = true) :
    bookOf room bs v lock slot = (bs ++ [⟨m, v, lock, freeOf room bs lock slot⟩], m, true) := by
  subst hm
  unfold bookOf bookedB
  rw [if_pos hy, if_pos h]
theorem bookOf_yes_len {bs : List Booking} {b : Booking} {m : Int} {f : Bool} : (bs ++ [b], m, f).1.length = bs.length + 1 := by simp
theorem BookSlot_spec {w : World} {A : Option Addr} {c : Nat} {bs : List Booking} {room v lock slot : Int} (hs : Sl w 4 A bs.length c (bs.flatMap Booking.enc)) (hl : bs.length ≤ 2000000) : Calls Try.prog 24 #[.int .i64 room, .slice A bs.length c, .int .i64 v, .int .i64 lock, .int .i64 slot] w (RetRow w 49 4 (bookOf room bs v lock slot).1.length ((bookOf room bs v lock slot).1.flatMap Booking.enc) (fun s => .tuple #[s, .int .i64 (bookOf room bs v lock slot).2.1, .bool (bookOf room bs v lock slot).2.2])) := by
  refine calls_of_run (vs := [_, _, _, _, _]) (L := [(0, _), (1, _), (2, _), (3, _), (4, _)]) (n := 73) (F := []) (H := []) Try.func24 rfl rfl rfl rfl (HOk.start _) ?_
  refine Run.seq ?_
  refine Run.quiet (by intro h; cases h) ?_
  refine QOps.st rfl rfl (Yv.assign rfl).yl ?_
  refine QOps.st rfl rfl (Yv.assign rfl).yl ?_
  refine QOps.st rfl rfl (Yv.assign rfl).yl ?_
  refine QOps.nil ?_
  refine Run.seq ?_
  refine Run.seq ?_
  refine Run.quiet (by intro h; cases h) ?_
  refine QOps.st rfl rfl (Yv.move rfl).yl ?_
  refine QOps.st rfl rfl (Yv.move rfl).yl ?_
  refine QOps.st rfl rfl (Yl.call callable17 (.cons rfl (.cons rfl (.nil))) (fun w' hw' => AreBookings_spec ((Rd.arg hs) w' hw'))) ?_
  refine QOps.st rfl rfl (Yv.not rfl).yl ?_
  refine QOps.st rfl rfl (Yv.move rfl).yl ?_
  refine' QOps.or [_, _, _] _ (.tmp 22) rfl rfl rfl rfl rfl rfl (fun hg1 => ?_) ?_
  rotate_left
  · try replace hg1 := of_decide_eq_false hg1
    refine QOps.st rfl rfl (Yv.move rfl).yl ?_
    refine QOps.st rfl rfl (Yl.call callable52 (.cons rfl (.cons rfl (.cons rfl (.nil)))) (fun w' hw' => inside_spec)) ?_
    refine QOps.st rfl rfl (Yv.not rfl).yl ?_
    exact QOps.nil rfl
  refine QOps.st rfl rfl (Yv.move rfl).yl ?_
  refine' QOps.or [_, _, _] _ (.tmp 27) rfl rfl rfl rfl rfl rfl (fun hg2 => ?_) ?_
  rotate_left
  · try replace hg2 := of_decide_eq_false hg2
    refine QOps.st rfl rfl (Yv.move rfl).yl ?_
    refine QOps.st rfl rfl (Yl.call callable53 (.cons rfl (.nil)) (fun w' hw' => isLockNumber_spec)) ?_
    refine QOps.st rfl rfl (Yv.not rfl).yl ?_
    exact QOps.nil rfl
  refine QOps.st rfl rfl (Yv.move rfl).yl ?_
  refine' QOps.or [_, _, _] _ (.tmp 32) rfl rfl rfl rfl rfl rfl (fun hg3 => ?_) ?_
  rotate_left
  · try replace hg3 := of_decide_eq_false hg3
    refine QOps.st rfl rfl (Yv.move rfl).yl ?_
    refine QOps.st rfl rfl (Yl.call callable54 (.cons rfl (.nil)) (fun w' hw' => isSlot_spec)) ?_
    refine QOps.st rfl rfl (Yv.not rfl).yl ?_
    exact QOps.nil rfl
  refine QOps.nil ?_
  refine Run.cond rfl (fun hc1 => ?_) (fun hc1 => ?_)
  · try replace hc1 := of_decide_eq_true hc1
    have hno : bookOf room bs v lock slot = ([], 0, false) := by
      by_cases hv : inB v 1 99 = true
      · exact bookOf_no (by revert hc1 hv; cases areBookings room bs <;> cases hB : inB lock 0 4 <;> cases hC : inB slot 0 47 <;> cases inB v 1 99 <;> simp [slotOk, hB, hC])
      · exact bookOf_v (by simpa using hv)
    refine Run.seq ?_
    refine Run.quiet (by intro h; cases h) ?_
    refine QOps.st rfl rfl (Yv.assign rfl).yl ?_
    refine QOps.st rfl rfl (Yv.assign rfl).yl ?_
    refine QOps.st rfl rfl (Yv.assign rfl).yl ?_
    refine QOps.nil ?_
    refine Run.ret ?_
    refine retQ.of (.inr rfl) rfl (.tmp rfl (.tmp rfl (.tmp rfl .nil))) (fun w' hw' => ?_)
    rw [hno]; exact ⟨_, _, rfl, hw'.bel.below, ⟨by first | rfl | simp, .inl ⟨rfl, rfl⟩⟩, by simp⟩
  · try replace hc1 := of_decide_eq_false hc1
    have hy : (areBookings room bs && slotOk lock slot) = true := by cases hA : areBookings room bs <;> cases hV : inB v 1 99 <;> cases hB : inB lock 0 4 <;> cases hC : inB slot 0 47 <;> simp_all [slotOk]
    have hy2 := hy
    simp only [Bool.and_eq_true, slotOk, inB_iff] at hy2
    have hp := are_parts hy2.1
    refine Run.skip ?_
    refine Run.seq ?_
    refine Run.block ?_
    refine Run.loop (S := Int) (fun s => match s with | s => slot ≤ s ∧ s ≤ 48 ∧ freeOf room bs lock s = freeOf room bs lock slot) (fun s => match s with | s => [(0, .int .i64 room), (1, .slice A bs.length c), (2, .int .i64 v), (3, .int .i64 lock), (4, .int .i64 s)]) (fun s => match s with | s => []) (fun s => match s with | s => (48 - s).toNat) slot ?_ (SubE.cons rfl (SubE.cons rfl (SubE.cons rfl (SubE.cons rfl (SubE.cons rfl (SubE.nil _)))))) (List.Sublist.refl _) ?_
    · exact ⟨by omega, by omega, rfl⟩
    · rintro s ⟨hs1, hs2, hfr⟩
      show Run _ _ _ _ _ [(0, .int .i64 room), (1, .slice A bs.length c), (2, .int .i64 v), (3, .int .i64 lock), (4, .int .i64 s)] [] _
      refine Run.seq ?_
      refine Run.seq ?_
      refine Run.quiet (by intro h; cases h) ?_
      refine QOps.st rfl rfl (Yv.move rfl).yl ?_
      refine QOps.st rfl rfl (Yl.call callable54 (.cons rfl (.nil)) (fun w' hw' => isSlot_spec)) ?_
      refine QOps.st rfl rfl (Yv.move rfl).yl ?_
      refine' QOps.and [_, _, _, _, _, _] _ (.tmp 42) rfl rfl rfl rfl rfl rfl (fun hg4 => ?_) ?_
      rotate_left
      · try replace hg4 := of_decide_eq_true hg4
        refine QOps.st rfl rfl (Yv.move rfl).yl ?_
        refine QOps.st rfl rfl (Yv.move rfl).yl ?_
        refine QOps.st rfl rfl (Yv.move rfl).yl ?_
        refine QOps.st rfl rfl (Yl.call callable55 (.cons rfl (.cons rfl (.cons rfl (.nil)))) (fun w' hw' => bookedIn_spec ((Rd.arg hs) w' hw'))) ?_
        refine QOps.st rfl rfl (Yv.move rfl).yl ?_
        refine QOps.st rfl rfl (Yv.geq rfl rfl).yl ?_
        exact QOps.nil rfl
      refine QOps.nil ?_
      refine Run.cond rfl (fun hc2 => ?_) (fun hc2 => ?_)
      · try replace hc2 := of_decide_eq_true hc2
        have hf : fullS room bs lock s = true := by unfold fullS; exact hc2
        have hf2 := hf
        simp only [fullS, Bool.and_eq_true, inB_iff] at hf2
        refine Run.skip ?_
        refine Run.block ?_
        refine Run.quiet (by intro h; cases h) ?_
        refine QOps.st rfl rfl (Yv.move rfl).yl ?_
        refine QOps.st rfl rfl (Yv.add rfl rfl (by omega)).yl ?_
        refine QOps.st rfl rfl (Yv.assign rfl).yl ?_
        refine QOps.nil ?_
        refine ⟨s + 1, ?_, ?_, (SubE.cons rfl (SubE.cons rfl (SubE.cons rfl (SubE.cons rfl (SubE.cons rfl (SubE.nil _)))))), (List.Sublist.refl _)⟩
        · exact ⟨by omega, by omega, by rw [freeOf_step hf]; exact hfr⟩
        · (dsimp only; omega)
      · try replace hc2 := of_decide_eq_false hc2
        have hst : freeOf room bs lock s = s := freeOf_stop (by unfold fullS; exact hc2)
        have hse : s = freeOf room bs lock slot := by rw [← hst, hfr]
        clear hst hfr
        subst hse
        refine Run.exit ?_
        refine Run.seq ?_
        refine Run.quiet (by intro h; cases h) ?_
        refine QOps.st rfl rfl (Yv.assign rfl).yl ?_
        refine QOps.nil ?_
        refine Run.seq ?_
        refine Run.seq ?_
        refine Run.quiet (by intro h; cases h) ?_
        refine QOps.st rfl rfl (Yv.move rfl).yl ?_
        refine QOps.st rfl rfl (Yv.lenS el25s rfl).yl ?_
        refine QOps.st rfl rfl (Yv.gtr rfl rfl).yl ?_
        refine QOps.nil ?_
        refine Run.cond rfl (fun hc3 => ?_) (fun hc3 => ?_)
        · try replace hc3 := of_decide_eq_true hc3
          have hn9 := one_number (bad_head (hp.2.2 (bs.length - 1) (by omega)))
          have hm : nextNo bs = (nth bs (bs.length - 1)).number + 1 := by unfold nextNo; rw [if_pos (by omega)]
          refine Run.quiet (by intro h; cases h) ?_
          refine QOps.st rfl rfl (Yv.move rfl).yl ?_
          refine QOps.st rfl rfl (Yv.move rfl).yl ?_
          refine QOps.st rfl rfl (Yv.lenS el25s rfl).yl ?_
          refine QOps.st rfl rfl (Yv.sub rfl rfl (by omega)).yl ?_
          refine QOps.st rfl rfl (Yv.indexAddr (bs.length - 1) el25 rfl rfl (by omega) (Rd.arg hs) (by omega)).yl ?_
          refine QOps.st rfl rfl (Yv.fieldAddr fld49_0 rfl).yl ?_
          refine QOps.st rfl rfl (Yv.loadF lay3 rfl Booking.len (Rd.arg hs) (by first | omega | (simp; omega)) (by decide) rfl).yl ?_
          refine QOps.st rfl rfl (Yv.add rfl rfl (by omega)).yl ?_
          refine QOps.st rfl rfl (Yv.assign rfl).yl ?_
          refine QOps.nil ?_
          refine Run.seq ?_
          refine Run.ops ?_
          refine SOps.one rfl (One.buildSliceG (pv := []) (cs := []) (fun _ => []) rfl el25 .nil rfl rfl (by kernel_rfl) rfl rfl (fun b1 => ?_))
          refine SOps.st rfl rfl (Yv.move rfl).yl ?_
          refine SOps.one rfl (One.append (enc := Booking.enc) (l := ([] : List Booking)) (l2 := bs) (m' := bs.length) (i := 0) (H' := fun A c => [_]) rfl el25 zero49 rfl (by decide) rfl rfl rfl (Rd.arg hs) (fun _ => rfl) (by simp) (by omega) (by omega) (fun _ _ => rfl) (fun A1 c1 => ?_))
          refine SOps.st rfl rfl (Yv.move rfl).yl ?_
          refine SOps.st rfl rfl (Yv.move rfl).yl ?_
          refine SOps.st rfl rfl (Yv.move rfl).yl ?_
          refine SOps.st rfl rfl (Yv.move rfl).yl ?_
          refine SOps.st rfl rfl (Yv.buildG (pv := [(0, _), (1, _), (2, _), (3, _)]) (cs := [_, _, _, _]) (fun l => match l with | [a0_0, a1_0, a2_0, a3_0] => [a0_0, a1_0, a2_0, a3_0] | _ => []) (.cons rfl (.cons rfl (.cons rfl (.cons rfl (.nil))))) rfl rfl (by kernel_rfl)).yl ?_
          refine SOps.one rfl (One.buildSliceG (pv := [(0, _)]) (cs := [_, _, _, _]) (fun l => match l with | [.agg ⟨[a0_0, a0_1, a0_2, a0_3]⟩] => [a0_0, a0_1, a0_2, a0_3] | _ => []) rfl el25 (.cons rfl (.nil)) rfl rfl (by kernel_rfl) rfl rfl (fun b2 => ?_))
          refine SOps.one rfl (One.append (enc := Booking.enc) (l := bs) (l2 := [⟨((nth bs (bs.length - 1)).number + 1), v, lock, freeOf room bs lock slot⟩]) (m' := (bs.length + 1)) (i := 1) (H' := fun A c => [_, _]) rfl el25 zero49 rfl (by decide) rfl rfl rfl (Rd.row (i := 0) rfl) (fun _ => rfl) rfl (by omega) (by omega) (fun _ _ => rfl) (fun A2 c2 => ?_))
          refine SOps.st rfl rfl (Yv.assign rfl).yl ?_
          refine SOps.nil ?_
          refine Run.seq ?_
          refine Run.seq ?_
          refine Run.quiet (by intro h; cases h) ?_
          refine QOps.st rfl rfl (Yv.move rfl).yl ?_
          refine QOps.st rfl rfl (Yv.move rfl).yl ?_
          refine QOps.st rfl rfl (Yl.call callable17 (.cons rfl (.cons rfl (.nil))) (fun w' hw' => AreBookings_spec' (bs := bs ++ [⟨((nth bs (bs.length - 1)).number + 1), v, lock, freeOf room bs lock slot⟩]) (by simp) (Rd.row (i := 1) rfl w' hw'))) ?_
          refine QOps.st rfl rfl (Yv.not rfl).yl ?_
          refine QOps.nil ?_
          refine Run.cond rfl (fun hc4 => ?_) (fun hc4 => ?_)
          · try replace hc4 := of_decide_eq_true hc4
            refine Run.seq ?_
            refine Run.quiet (by intro h; cases h) ?_
            refine QOps.st rfl rfl (Yv.assign rfl).yl ?_
            refine QOps.st rfl rfl (Yv.assign rfl).yl ?_
            refine QOps.st rfl rfl (Yv.assign rfl).yl ?_
            refine QOps.nil ?_
            refine Run.ret ?_
            refine retQ.of (.inr rfl) rfl (.tmp rfl (.tmp rfl (.tmp rfl .nil))) (fun w' hw' => ?_)
            rw [bookOf_bad hm (by simpa using hc4)]; exact ⟨_, _, rfl, hw'.bel.below, ⟨by first | rfl | simp, .inl ⟨rfl, rfl⟩⟩, by simp⟩
          · try replace hc4 := of_decide_eq_false hc4
            refine Run.skip ?_
            refine Run.seq ?_
            refine Run.quiet (by intro h; cases h) ?_
            refine QOps.st rfl rfl (Yv.move rfl).yl ?_
            refine QOps.st rfl rfl (Yv.move rfl).yl ?_
            refine QOps.st rfl rfl (Yv.assign rfl).yl ?_
            refine QOps.st rfl rfl (Yv.assign rfl).yl ?_
            refine QOps.st rfl rfl (Yv.assign rfl).yl ?_
            refine QOps.nil ?_
            refine Run.ret ?_
            refine retQ.of (.inr rfl) rfl (.tmp rfl (.tmp rfl (.tmp rfl .nil))) (fun w' hw' => ?_)
            rw [bookOf_yes hy hm (by simpa using hc4), bookOf_yes_len]; exact ⟨_, _, rfl, hw'.bel.below, hw'.ent _ (List.mem_of_getElem? (i := 1) rfl), fun g hg => (hw'.own _ (List.mem_of_getElem? (i := 1) rfl) g hg).elim id (by simp)⟩
        · try replace hc3 := of_decide_eq_false hc3
          have hm : nextNo bs = 1 := by unfold nextNo; rw [if_neg (by omega)]
          refine Run.skip ?_
          refine Run.seq ?_
          refine Run.ops ?_
          refine SOps.one rfl (One.buildSliceG (pv := []) (cs := []) (fun _ => []) rfl el25 .nil rfl rfl (by kernel_rfl) rfl rfl (fun b3 => ?_))
          refine SOps.st rfl rfl (Yv.move rfl).yl ?_
          refine SOps.one rfl (One.append (enc := Booking.enc) (l := ([] : List Booking)) (l2 := bs) (m' := bs.length) (i := 0) (H' := fun A c => [_]) rfl el25 zero49 rfl (by decide) rfl rfl rfl (Rd.arg hs) (fun _ => rfl) (by simp) (by omega) (by omega) (fun _ _ => rfl) (fun A3 c3 => ?_))
          refine SOps.st rfl rfl (Yv.move rfl).yl ?_
          refine SOps.st rfl rfl (Yv.move rfl).yl ?_
          refine SOps.st rfl rfl (Yv.move rfl).yl ?_
          refine SOps.st rfl rfl (Yv.move rfl).yl ?_
          refine SOps.st rfl rfl (Yv.buildG (pv := [(0, _), (1, _), (2, _), (3, _)]) (cs := [_, _, _, _]) (fun l => match l with | [a0_0, a1_0, a2_0, a3_0] => [a0_0, a1_0, a2_0, a3_0] | _ => []) (.cons rfl (.cons rfl (.cons rfl (.cons rfl (.nil))))) rfl rfl (by kernel_rfl)).yl ?_
          refine SOps.one rfl (One.buildSliceG (pv := [(0, _)]) (cs := [_, _, _, _]) (fun l => match l with | [.agg ⟨[a0_0, a0_1, a0_2, a0_3]⟩] => [a0_0, a0_1, a0_2, a0_3] | _ => []) rfl el25 (.cons rfl (.nil)) rfl rfl (by kernel_rfl) rfl rfl (fun b4 => ?_))
          refine SOps.one rfl (One.append (enc := Booking.enc) (l := bs) (l2 := [⟨1, v, lock, freeOf room bs lock slot⟩]) (m' := (bs.length + 1)) (i := 1) (H' := fun A c => [_, _]) rfl el25 zero49 rfl (by decide) rfl rfl rfl (Rd.row (i := 0) rfl) (fun _ => rfl) rfl (by omega) (by omega) (fun _ _ => rfl) (fun A4 c4 => ?_))
          refine SOps.st rfl rfl (Yv.assign rfl).yl ?_
          refine SOps.nil ?_
          refine Run.seq ?_
          refine Run.seq ?_
          refine Run.quiet (by intro h; cases h) ?_
          refine QOps.st rfl rfl (Yv.move rfl).yl ?_
          refine QOps.st rfl rfl (Yv.move rfl).yl ?_
          refine QOps.st rfl rfl (Yl.call callable17 (.cons rfl (.cons rfl (.nil))) (fun w' hw' => AreBookings_spec' (bs := bs ++ [⟨1, v, lock, freeOf room bs lock slot⟩]) (by simp) (Rd.row (i := 1) rfl w' hw'))) ?_
          refine QOps.st rfl rfl (Yv.not rfl).yl ?_
          refine QOps.nil ?_
          refine Run.cond rfl (fun hc5 => ?_) (fun hc5 => ?_)
          · try replace hc5 := of_decide_eq_true hc5
            refine Run.seq ?_
            refine Run.quiet (by intro h; cases h) ?_
            refine QOps.st rfl rfl (Yv.assign rfl).yl ?_
            refine QOps.st rfl rfl (Yv.assign rfl).yl ?_
            refine QOps.st rfl rfl (Yv.assign rfl).yl ?_
            refine QOps.nil ?_
            refine Run.ret ?_
            refine retQ.of (.inr rfl) rfl (.tmp rfl (.tmp rfl (.tmp rfl .nil))) (fun w' hw' => ?_)
            rw [bookOf_bad hm (by simpa using hc5)]; exact ⟨_, _, rfl, hw'.bel.below, ⟨by first | rfl | simp, .inl ⟨rfl, rfl⟩⟩, by simp⟩
          · try replace hc5 := of_decide_eq_false hc5
            refine Run.skip ?_
            refine Run.seq ?_
            refine Run.quiet (by intro h; cases h) ?_
            refine QOps.st rfl rfl (Yv.move rfl).yl ?_
            refine QOps.st rfl rfl (Yv.move rfl).yl ?_
            refine QOps.st rfl rfl (Yv.assign rfl).yl ?_
            refine QOps.st rfl rfl (Yv.assign rfl).yl ?_
            refine QOps.st rfl rfl (Yv.assign rfl).yl ?_
            refine QOps.nil ?_
            refine Run.ret ?_
            refine retQ.of (.inr rfl) rfl (.tmp rfl (.tmp rfl (.tmp rfl .nil))) (fun w' hw' => ?_)
            rw [bookOf_yes hy hm (by simpa using hc5), bookOf_yes_len]; exact ⟨_, _, rfl, hw'.bel.below, hw'.ent _ (List.mem_of_getElem? (i := 1) rfl), fun g hg => (hw'.own _ (List.mem_of_getElem? (i := 1) rfl) g hg).elim id (by simp)⟩

theorem sBookSlot_spec {w : World} {A : Option Addr} {c : Nat} {bs : List Booking} {room v lock slot : Int} (hs : Sl w 4 A bs.length c (bs.flatMap Booking.enc)) (hl : bs.length ≤ 2000000) : Calls Try.prog 23 #[.int .i64 room, .slice A bs.length c, .int .i64 v, .int .i64 lock, .int .i64 slot] w (RetRow w 49 4 (bookOf room bs v lock slot).1.length ((bookOf room bs v lock slot).1.flatMap Booking.enc) (fun s => .tuple #[s, .int .i64 (bookOf room bs v lock slot).2.1, .bool (bookOf room bs v lock slot).2.2])) := by
  refine calls_of_run (vs := [_, _, _, _, _]) (L := [(0, _), (1, _), (2, _), (3, _), (4, _)]) (n := 67) (F := []) (H := []) Try.func23 rfl rfl rfl rfl (HOk.start _) ?_
  refine Run.seq ?_
  refine Run.quiet (by intro h; cases h) ?_
  refine QOps.st rfl rfl (Yv.assign rfl).yl ?_
  refine QOps.st rfl rfl (Yv.assign rfl).yl ?_
  refine QOps.st rfl rfl (Yv.assign rfl).yl ?_
  refine QOps.nil ?_
  refine Run.seq ?_
  refine Run.seq ?_
  refine Run.quiet (by intro h; cases h) ?_
  refine QOps.st rfl rfl (Yv.move rfl).yl ?_
  refine QOps.st rfl rfl (Yv.move rfl).yl ?_
  refine QOps.st rfl rfl (Yl.call callable50 (.cons rfl (.cons rfl (.nil))) (fun w' hw' => l18Good_spec ((Rd.arg hs) w' hw'))) ?_
  refine QOps.st rfl rfl (Yv.not rfl).yl ?_
  refine QOps.st rfl rfl (Yv.move rfl).yl ?_
  refine' QOps.or [_, _, _, _] _ (.tmp 24) rfl rfl rfl rfl rfl rfl (fun hg1 => ?_) ?_
  rotate_left
  · try replace hg1 := of_decide_eq_false hg1
    refine QOps.st rfl rfl (Yv.move rfl).yl ?_
    refine QOps.st rfl rfl (Yv.move rfl).yl ?_
    refine QOps.st rfl rfl (Yl.call callable59 (.cons rfl (.cons rfl (.nil))) (fun w' hw' => l18Slot_spec)) ?_
    refine QOps.st rfl rfl (Yv.not rfl).yl ?_
    exact QOps.nil rfl
  refine QOps.nil ?_
  refine Run.cond rfl (fun hc1 => ?_) (fun hc1 => ?_)
  · try replace hc1 := of_decide_eq_true hc1
    have hno : bookOf room bs v lock slot = ([], 0, false) := by
      by_cases hv : inB v 1 99 = true
      · exact bookOf_no (by revert hc1 hv; cases areBookings room bs <;> cases hB : inB lock 0 4 <;> cases hC : inB slot 0 47 <;> cases inB v 1 99 <;> simp [slotOk, hB, hC])
      · exact bookOf_v (by simpa using hv)
    refine Run.seq ?_
    refine Run.ops ?_
    refine SOps.one rfl (One.buildSliceG (pv := []) (cs := []) (fun _ => []) rfl el25 .nil rfl rfl (by kernel_rfl) rfl rfl (fun b1 => ?_))
    refine SOps.st rfl rfl (Yv.assign rfl).yl ?_
    refine SOps.st rfl rfl (Yv.assign rfl).yl ?_
    refine SOps.st rfl rfl (Yv.assign rfl).yl ?_
    refine SOps.nil ?_
    refine Run.ret ?_
    refine retQ.of (.inr rfl) rfl (.tmp rfl (.tmp rfl (.tmp rfl .nil))) (fun w' hw' => ?_)
    rw [hno]; exact ⟨_, _, rfl, hw'.bel.below, hw'.ent _ (List.mem_of_getElem? (i := 0) rfl), fun g hg => (hw'.own _ (List.mem_of_getElem? (i := 0) rfl) g hg).elim id (by simp)⟩
  · try replace hc1 := of_decide_eq_false hc1
    have hy : (areBookings room bs && slotOk lock slot) = true := by cases hA : areBookings room bs <;> cases hV : inB v 1 99 <;> cases hB : inB lock 0 4 <;> cases hC : inB slot 0 47 <;> simp_all [slotOk]
    have hy2 := hy
    simp only [Bool.and_eq_true, slotOk, inB_iff] at hy2
    have hp := are_parts hy2.1
    refine Run.skip ?_
    refine Run.seq ?_
    refine Run.block ?_
    refine Run.loop (S := Int) (fun s => match s with | s => slot ≤ s ∧ s ≤ 48 ∧ freeOf room bs lock s = freeOf room bs lock slot) (fun s => match s with | s => [(0, .int .i64 room), (1, .slice A bs.length c), (2, .int .i64 v), (3, .int .i64 lock), (4, .int .i64 s)]) (fun s => match s with | s => []) (fun s => match s with | s => (48 - s).toNat) slot ?_ (SubE.cons rfl (SubE.cons rfl (SubE.cons rfl (SubE.cons rfl (SubE.cons rfl (SubE.nil _)))))) (List.Sublist.refl _) ?_
    · exact ⟨by omega, by omega, rfl⟩
    · rintro s ⟨hs1, hs2, hfr⟩
      show Run _ _ _ _ _ [(0, .int .i64 room), (1, .slice A bs.length c), (2, .int .i64 v), (3, .int .i64 lock), (4, .int .i64 s)] [] _
      refine Run.seq ?_
      refine Run.seq ?_
      refine Run.quiet (by intro h; cases h) ?_
      refine QOps.st rfl rfl (Yv.move rfl).yl ?_
      refine QOps.st rfl rfl (Yv.lss rfl rfl).yl ?_
      refine QOps.st rfl rfl (Yv.move rfl).yl ?_
      refine' QOps.and [_, _, _, _, _, _] _ (.tmp 35) rfl rfl rfl rfl rfl rfl (fun hg2 => ?_) ?_
      rotate_left
      · try replace hg2 := of_decide_eq_true hg2
        refine QOps.st rfl rfl (Yv.move rfl).yl ?_
        refine QOps.st rfl rfl (Yv.move rfl).yl ?_
        refine QOps.st rfl rfl (Yv.move rfl).yl ?_
        refine QOps.st rfl rfl (Yl.call callable60 (.cons rfl (.cons rfl (.cons rfl (.nil)))) (fun w' hw' => l18Used_spec ((Rd.arg hs) w' hw'))) ?_
        refine QOps.st rfl rfl (Yv.move rfl).yl ?_
        refine QOps.st rfl rfl (Yv.geq rfl rfl).yl ?_
        exact QOps.nil rfl
      refine QOps.nil ?_
      refine Run.cond rfl (fun hc2 => ?_) (fun hc2 => ?_)
      · try replace hc2 := of_decide_eq_true hc2
        have hf : fullS room bs lock s = true := by unfold fullS; rw [show inB s 0 47 = decide (s < 48) by unfold inB; rw [decide_eq_true (show (0 : Int) ≤ s by omega), Bool.true_and]; exact decide_eq_decide.2 (by omega)]; exact hc2
        have hf2 := hf
        simp only [fullS, Bool.and_eq_true, inB_iff] at hf2
        refine Run.skip ?_
        refine Run.block ?_
        refine Run.quiet (by intro h; cases h) ?_
        refine QOps.st rfl rfl (Yv.move rfl).yl ?_
        refine QOps.st rfl rfl (Yv.add rfl rfl (by omega)).yl ?_
        refine QOps.st rfl rfl (Yv.assign rfl).yl ?_
        refine QOps.nil ?_
        refine ⟨s + 1, ?_, ?_, (SubE.cons rfl (SubE.cons rfl (SubE.cons rfl (SubE.cons rfl (SubE.cons rfl (SubE.nil _)))))), (List.Sublist.refl _)⟩
        · exact ⟨by omega, by omega, by rw [freeOf_step hf]; exact hfr⟩
        · (dsimp only; omega)
      · try replace hc2 := of_decide_eq_false hc2
        have hst : freeOf room bs lock s = s := freeOf_stop (by unfold fullS; rw [show inB s 0 47 = decide (s < 48) by unfold inB; rw [decide_eq_true (show (0 : Int) ≤ s by omega), Bool.true_and]; exact decide_eq_decide.2 (by omega)]; exact hc2)
        have hse : s = freeOf room bs lock slot := by rw [← hst, hfr]
        clear hst hfr
        subst hse
        refine Run.exit ?_
        refine Run.seq ?_
        refine Run.quiet (by intro h; cases h) ?_
        refine QOps.st rfl rfl (Yv.assign rfl).yl ?_
        refine QOps.nil ?_
        refine Run.seq ?_
        refine Run.seq ?_
        refine Run.quiet (by intro h; cases h) ?_
        refine QOps.st rfl rfl (Yv.move rfl).yl ?_
        refine QOps.st rfl rfl (Yv.lenS el25s rfl).yl ?_
        refine QOps.st rfl rfl (Yv.assign rfl).yl ?_
        refine QOps.nil ?_
        refine Run.seq ?_
        refine Run.quiet (by intro h; cases h) ?_
        refine QOps.st rfl rfl (Yv.move rfl).yl ?_
        refine QOps.st rfl rfl (Yv.gtr rfl rfl).yl ?_
        refine QOps.nil ?_
        refine Run.cond rfl (fun hc3 => ?_) (fun hc3 => ?_)
        · try replace hc3 := of_decide_eq_true hc3
          have hn9 := one_number (bad_head (hp.2.2 (bs.length - 1) (by omega)))
          have hm : nextNo bs = (nth bs (bs.length - 1)).number + 1 := by unfold nextNo; rw [if_pos (by omega)]
          refine Run.quiet (by intro h; cases h) ?_
          refine QOps.st rfl rfl (Yv.move rfl).yl ?_
          refine QOps.st rfl rfl (Yv.move rfl).yl ?_
          refine QOps.st rfl rfl (Yv.sub rfl rfl (by omega)).yl ?_
          refine QOps.st rfl rfl (Yv.indexAddr (bs.length - 1) el25 rfl rfl (by omega) (Rd.arg hs) (by omega)).yl ?_
          refine QOps.st rfl rfl (Yv.fieldAddr fld49_0 rfl).yl ?_
          refine QOps.st rfl rfl (Yv.loadF lay3 rfl Booking.len (Rd.arg hs) (by first | omega | (simp; omega)) (by decide) rfl).yl ?_
          refine QOps.st rfl rfl (Yv.add rfl rfl (by omega)).yl ?_
          refine QOps.st rfl rfl (Yv.assign rfl).yl ?_
          refine QOps.nil ?_
          refine Run.seq ?_
          refine Run.ops ?_
          refine SOps.one rfl (One.buildSliceG (pv := []) (cs := []) (fun _ => []) rfl el25 .nil rfl rfl (by kernel_rfl) rfl rfl (fun b2 => ?_))
          refine SOps.st rfl rfl (Yv.move rfl).yl ?_
          refine SOps.one rfl (One.append (enc := Booking.enc) (l := ([] : List Booking)) (l2 := bs) (m' := bs.length) (i := 0) (H' := fun A c => [_]) rfl el25 zero49 rfl (by decide) rfl rfl rfl (Rd.arg hs) (fun _ => rfl) (by simp) (by omega) (by omega) (fun _ _ => rfl) (fun A1 c1 => ?_))
          refine SOps.st rfl rfl (Yv.move rfl).yl ?_
          refine SOps.st rfl rfl (Yv.move rfl).yl ?_
          refine SOps.st rfl rfl (Yv.move rfl).yl ?_
          refine SOps.st rfl rfl (Yv.move rfl).yl ?_
          refine SOps.st rfl rfl (Yv.buildG (pv := [(0, _), (1, _), (2, _), (3, _)]) (cs := [_, _, _, _]) (fun l => match l with | [a0_0, a1_0, a2_0, a3_0] => [a0_0, a1_0, a2_0, a3_0] | _ => []) (.cons rfl (.cons rfl (.cons rfl (.cons rfl (.nil))))) rfl rfl (by kernel_rfl)).yl ?_
          refine SOps.one rfl (One.buildSliceG (pv := [(0, _)]) (cs := [_, _, _, _]) (fun l => match l with | [.agg ⟨[a0_0, a0_1, a0_2, a0_3]⟩] => [a0_0, a0_1, a0_2, a0_3] | _ => []) rfl el25 (.cons rfl (.nil)) rfl rfl (by kernel_rfl) rfl rfl (fun b3 => ?_))
          refine SOps.one rfl (One.append (enc := Booking.enc) (l := bs) (l2 := [⟨((nth bs (bs.length - 1)).number + 1), v, lock, freeOf room bs lock slot⟩]) (m' := (bs.length + 1)) (i := 1) (H' := fun A c => [_, _]) rfl el25 zero49 rfl (by decide) rfl rfl rfl (Rd.row (i := 0) rfl) (fun _ => rfl) rfl (by omega) (by omega) (fun _ _ => rfl) (fun A2 c2 => ?_))
          refine SOps.st rfl rfl (Yv.assign rfl).yl ?_
          refine SOps.nil ?_
          refine Run.seq ?_
          refine Run.seq ?_
          refine Run.quiet (by intro h; cases h) ?_
          refine QOps.st rfl rfl (Yv.move rfl).yl ?_
          refine QOps.st rfl rfl (Yv.move rfl).yl ?_
          refine QOps.st rfl rfl (Yl.call callable50 (.cons rfl (.cons rfl (.nil))) (fun w' hw' => l18Good_spec' (bs := bs ++ [⟨((nth bs (bs.length - 1)).number + 1), v, lock, freeOf room bs lock slot⟩]) (by simp) (Rd.row (i := 1) rfl w' hw'))) ?_
          refine QOps.st rfl rfl (Yv.not rfl).yl ?_
          refine QOps.nil ?_
          refine Run.cond rfl (fun hc4 => ?_) (fun hc4 => ?_)
          · try replace hc4 := of_decide_eq_true hc4
            refine Run.seq ?_
            refine Run.ops ?_
            refine SOps.one rfl (One.buildSliceG (pv := []) (cs := []) (fun _ => []) rfl el25 .nil rfl rfl (by kernel_rfl) rfl rfl (fun b4 => ?_))
            refine SOps.st rfl rfl (Yv.assign rfl).yl ?_
            refine SOps.st rfl rfl (Yv.assign rfl).yl ?_
            refine SOps.st rfl rfl (Yv.assign rfl).yl ?_
            refine SOps.nil ?_
            refine Run.ret ?_
            refine retQ.of (.inr rfl) rfl (.tmp rfl (.tmp rfl (.tmp rfl .nil))) (fun w' hw' => ?_)
            rw [bookOf_bad hm (by simpa using hc4)]; exact ⟨_, _, rfl, hw'.bel.below, hw'.ent _ (List.mem_of_getElem? (i := 0) rfl), fun g hg => (hw'.own _ (List.mem_of_getElem? (i := 0) rfl) g hg).elim id (by simp)⟩
          · try replace hc4 := of_decide_eq_false hc4
            refine Run.skip ?_
            refine Run.seq ?_
            refine Run.quiet (by intro h; cases h) ?_
            refine QOps.st rfl rfl (Yv.move rfl).yl ?_
            refine QOps.st rfl rfl (Yv.move rfl).yl ?_
            refine QOps.st rfl rfl (Yv.assign rfl).yl ?_
            refine QOps.st rfl rfl (Yv.assign rfl).yl ?_
            refine QOps.st rfl rfl (Yv.assign rfl).yl ?_
            refine QOps.nil ?_
            refine Run.ret ?_
            refine retQ.of (.inr rfl) rfl (.tmp rfl (.tmp rfl (.tmp rfl .nil))) (fun w' hw' => ?_)
            rw [bookOf_yes hy hm (by simpa using hc4), bookOf_yes_len]; exact ⟨_, _, rfl, hw'.bel.below, hw'.ent _ (List.mem_of_getElem? (i := 1) rfl), fun g hg => (hw'.own _ (List.mem_of_getElem? (i := 1) rfl) g hg).elim id (by simp)⟩
        · try replace hc3 := of_decide_eq_false hc3
          have hm : nextNo bs = 1 := by unfold nextNo; rw [if_neg (by omega)]
          refine Run.skip ?_
          refine Run.seq ?_
          refine Run.ops ?_
          refine SOps.one rfl (One.buildSliceG (pv := []) (cs := []) (fun _ => []) rfl el25 .nil rfl rfl (by kernel_rfl) rfl rfl (fun b5 => ?_))
          refine SOps.st rfl rfl (Yv.move rfl).yl ?_
          refine SOps.one rfl (One.append (enc := Booking.enc) (l := ([] : List Booking)) (l2 := bs) (m' := bs.length) (i := 0) (H' := fun A c => [_]) rfl el25 zero49 rfl (by decide) rfl rfl rfl (Rd.arg hs) (fun _ => rfl) (by simp) (by omega) (by omega) (fun _ _ => rfl) (fun A3 c3 => ?_))
          refine SOps.st rfl rfl (Yv.move rfl).yl ?_
          refine SOps.st rfl rfl (Yv.move rfl).yl ?_
          refine SOps.st rfl rfl (Yv.move rfl).yl ?_
          refine SOps.st rfl rfl (Yv.move rfl).yl ?_
          refine SOps.st rfl rfl (Yv.buildG (pv := [(0, _), (1, _), (2, _), (3, _)]) (cs := [_, _, _, _]) (fun l => match l with | [a0_0, a1_0, a2_0, a3_0] => [a0_0, a1_0, a2_0, a3_0] | _ => []) (.cons rfl (.cons rfl (.cons rfl (.cons rfl (.nil))))) rfl rfl (by kernel_rfl)).yl ?_
          refine SOps.one rfl (One.buildSliceG (pv := [(0, _)]) (cs := [_, _, _, _]) (fun l => match l with | [.agg ⟨[a0_0, a0_1, a0_2, a0_3]⟩] => [a0_0, a0_1, a0_2, a0_3] | _ => []) rfl el25 (.cons rfl (.nil)) rfl rfl (by kernel_rfl) rfl rfl (fun b6 => ?_))
          refine SOps.one rfl (One.append (enc := Booking.enc) (l := bs) (l2 := [⟨1, v, lock, freeOf room bs lock slot⟩]) (m' := (bs.length + 1)) (i := 1) (H' := fun A c => [_, _]) rfl el25 zero49 rfl (by decide) rfl rfl rfl (Rd.row (i := 0) rfl) (fun _ => rfl) rfl (by omega) (by omega) (fun _ _ => rfl) (fun A4 c4 => ?_))
          refine SOps.st rfl rfl (Yv.assign rfl).yl ?_
          refine SOps.nil ?_
          refine Run.seq ?_
          refine Run.seq ?_
          refine Run.quiet (by intro h; cases h) ?_
          refine QOps.st rfl rfl (Yv.move rfl).yl ?_
          refine QOps.st rfl rfl (Yv.move rfl).yl ?_
          refine QOps.st rfl rfl (Yl.call callable50 (.cons rfl (.cons rfl (.nil))) (fun w' hw' => l18Good_spec' (bs := bs ++ [⟨1, v, lock, freeOf room bs lock slot⟩]) (by simp) (Rd.row (i := 1) rfl w' hw'))) ?_
          refine QOps.st rfl rfl (Yv.not rfl).yl ?_
          refine QOps.nil ?_
          refine Run.cond rfl (fun hc5 => ?_) (fun hc5 => ?_)
          · try replace hc5 := of_decide_eq_true hc5
            refine Run.seq ?_
            refine Run.ops ?_
            refine SOps.one rfl (One.buildSliceG (pv := []) (cs := []) (fun _ => []) rfl el25 .nil rfl rfl (by kernel_rfl) rfl rfl (fun b7 => ?_))
            refine SOps.st rfl rfl (Yv.assign rfl).yl ?_
            refine SOps.st rfl rfl (Yv.assign rfl).yl ?_
            refine SOps.st rfl rfl (Yv.assign rfl).yl ?_
            refine SOps.nil ?_
            refine Run.ret ?_
            refine retQ.of (.inr rfl) rfl (.tmp rfl (.tmp rfl (.tmp rfl .nil))) (fun w' hw' => ?_)
            rw [bookOf_bad hm (by simpa using hc5)]; exact ⟨_, _, rfl, hw'.bel.below, hw'.ent _ (List.mem_of_getElem? (i := 0) rfl), fun g hg => (hw'.own _ (List.mem_of_getElem? (i := 0) rfl) g hg).elim id (by simp)⟩
          · try replace hc5 := of_decide_eq_false hc5
            refine Run.skip ?_
            refine Run.seq ?_
            refine Run.quiet (by intro h; cases h) ?_
            refine QOps.st rfl rfl (Yv.move rfl).yl ?_
            refine QOps.st rfl rfl (Yv.move rfl).yl ?_
            refine QOps.st rfl rfl (Yv.assign rfl).yl ?_
            refine QOps.st rfl rfl (Yv.assign rfl).yl ?_
            refine QOps.st rfl rfl (Yv.assign rfl).yl ?_
            refine QOps.nil ?_
            refine Run.ret ?_
            refine retQ.of (.inr rfl) rfl (.tmp rfl (.tmp rfl (.tmp rfl .nil))) (fun w' hw' => ?_)
            rw [bookOf_yes hy hm (by simpa using hc5), bookOf_yes_len]; exact ⟨_, _, rfl, hw'.bel.below, hw'.ent _ (List.mem_of_getElem? (i := 1) rfl), fun g hg => (hw'.own _ (List.mem_of_getElem? (i := 1) rfl) g hg).elim id (by simp)⟩

theorem FnExactBookSlot_spec {w : World} {A : Option Addr} {c : Nat} {bs : List Booking} {room v lock slot : Int} (hs : Sl w 4 A bs.length c (bs.flatMap Booking.enc)) (hb : 32 * bs.length ≤ 281474976710656) :
    Calls Try.prog 6 #[.int .i64 room, .slice A bs.length c, .int .i64 v, .int .i64 lock, .int .i64 slot] w (RetB w (.bool true)) := by
  have hgl := bookOf_len (room := room) (bs := bs) (v := v) (lock := lock) (slot := slot)
  refine calls_of_run (vs := [_, _, _, _, _]) (L := [(0, _), (1, _), (2, _), (3, _), (4, _)]) (n := 137) (F := []) (H := []) Try.func6 rfl rfl rfl rfl (HOk.start _) ?_
  refine Run.seq ?_
  refine Run.quiet (by intro h; cases h) ?_
  refine QOps.st rfl rfl (Yv.assign rfl).yl ?_
  refine QOps.nil ?_
  refine Run.seq ?_
  refine Run.quiet (by intro h; cases h) ?_
  refine QOps.st rfl rfl (Yv.assign rfl).yl ?_
  refine QOps.nil ?_
  refine Run.seq ?_
  refine Run.quiet (by intro h; cases h) ?_
  refine QOps.st rfl rfl (Yv.move rfl).yl ?_
  refine QOps.st rfl rfl (Yv.move rfl).yl ?_
  refine QOps.st rfl rfl (Yl.call callable14 (.cons rfl (.cons rfl (.nil))) (fun w' hw' => szBookingS_spec (by omega) (by omega) (by omega))) ?_
  refine QOps.st rfl rfl (Yv.assign rfl).yl ?_
  refine QOps.nil ?_
  refine Run.seq ?_
  refine Run.seq ?_
  refine Run.quiet (by intro h; cases h) ?_
  refine QOps.st rfl rfl (Yv.move rfl).yl ?_
  refine QOps.st rfl rfl (Yv.lss rfl rfl).yl ?_
  refine QOps.nil ?_
  refine Run.cond rfl (fun hc1 => ?_) (fun hc1 => ?_)
  · try replace hc1 := of_decide_eq_true hc1
    refine Run.seq ?_
    refine Run.quiet (by intro h; cases h) ?_
    refine QOps.st rfl rfl (Yv.assign rfl).yl ?_
    refine QOps.nil ?_
    refine Run.ret ?_
    refine retQ.of (.inr rfl) rfl (.tmp rfl .nil) (fun w' hw' => ?_)
    refine ⟨?_, hw'.bel.below⟩
    exact rfl
  · try replace hc1 := of_decide_eq_false hc1
    have hn1 : bs.length ≤ 1048576 := by split at hc1 <;> omega
    refine Run.skip ?_
    refine Run.seq ?_
    refine Run.ops ?_
    refine SOps.st rfl rfl (Yv.move rfl).yl ?_
    refine SOps.st rfl rfl (Yv.move rfl).yl ?_
    refine SOps.one rfl (One.callRow rfl callable16 (.cons rfl (.nil)) (fun w' hw' => toBookingS_spec ((Rd.arg hs) w' hw') (by omega)) (fun A1 c1 => ?_))
    refine SOps.st rfl rfl (Yv.move rfl).yl ?_
    refine SOps.st rfl rfl (Yv.move rfl).yl ?_
    refine SOps.st rfl rfl (Yv.move rfl).yl ?_
    refine SOps.one rfl (One.callRow rfl callable23 (.cons rfl (.cons rfl (.cons rfl (.cons rfl (.cons rfl (.nil)))))) (fun w' hw' => sBookSlot_spec ((Rd.row (i := 0) rfl) w' hw') (by omega)) (fun A2 c2 => ?_))
    refine SOps.st rfl rfl (Yv.move rfl).yl ?_
    refine SOps.st rfl rfl (Yv.extract rfl rfl).yl ?_
    refine SOps.st rfl rfl (Yv.extract rfl rfl).yl ?_
    refine SOps.st rfl rfl (Yv.extract rfl rfl).yl ?_
    refine SOps.st rfl rfl (Yv.assign rfl).yl ?_
    refine SOps.st rfl rfl (Yv.assign rfl).yl ?_
    refine SOps.st rfl rfl (Yv.assign rfl).yl ?_
    refine SOps.nil ?_
    refine Run.seq ?_
    refine Run.ops ?_
    refine SOps.st rfl rfl (Yv.move rfl).yl ?_
    refine SOps.one rfl (One.callRow rfl callable16 (.cons rfl (.nil)) (fun w' hw' => toBookingS_spec ((Rd.arg hs) w' hw') (by omega)) (fun A3 c3 => ?_))
    refine SOps.st rfl rfl (Yv.assign rfl).yl ?_
    refine SOps.nil ?_
    refine Run.seq ?_
    refine Run.ops ?_
    refine SOps.st rfl rfl (Yv.move rfl).yl ?_
    refine SOps.st rfl rfl (Yv.move rfl).yl ?_
    refine SOps.st rfl rfl (Yv.move rfl).yl ?_
    refine SOps.st rfl rfl (Yv.move rfl).yl ?_
    refine SOps.st rfl rfl (Yv.move rfl).yl ?_
    refine SOps.one rfl (One.callRow rfl callable24 (.cons rfl (.cons rfl (.cons rfl (.cons rfl (.cons rfl (.nil)))))) (fun w' hw' => BookSlot_spec ((Rd.row (i := 0) rfl) w' hw') (by omega)) (fun A4 c4 => ?_))
    refine SOps.st rfl rfl (Yv.move rfl).yl ?_
    refine SOps.st rfl rfl (Yv.extract rfl rfl).yl ?_
    refine SOps.st rfl rfl (Yv.extract rfl rfl).yl ?_
    refine SOps.st rfl rfl (Yv.extract rfl rfl).yl ?_
    refine SOps.st rfl rfl (Yv.assign rfl).yl ?_
    refine SOps.st rfl rfl (Yv.assign rfl).yl ?_
    refine SOps.st rfl rfl (Yv.assign rfl).yl ?_
    refine SOps.nil ?_
    refine Run.seq ?_
    refine Run.seq ?_
    refine Run.quiet (by intro h; cases h) ?_
    refine QOps.st rfl rfl (Yv.move rfl).yl ?_
    refine QOps.st rfl rfl (Yv.move rfl).yl ?_
    refine QOps.st rfl rfl (Yl.call callable18 (.cons rfl (.cons rfl (.nil))) (fun w' hw' => eqBookingS_spec ((Rd.row (i := 0) rfl) w' hw') ((Rd.row (i := 2) rfl) w' hw'))) ?_
    refine QOps.st rfl rfl (Yv.not rfl).yl ?_
    refine QOps.st rfl rfl (Yv.move rfl).yl ?_
    refine' QOps.or [_, _, _] _ (.tmp 60) rfl rfl rfl rfl rfl rfl (fun hg1 => ?_) ?_
    rotate_left
    · try replace hg1 := of_decide_eq_false hg1
      refine QOps.st rfl rfl (Yv.move rfl).yl ?_
      refine QOps.st rfl rfl (Yv.move rfl).yl ?_
      refine QOps.st rfl rfl (Yv.neI rfl rfl).yl ?_
      exact QOps.nil rfl
    refine QOps.st rfl rfl (Yv.move rfl).yl ?_
    refine' QOps.or [_, _, _] _ (.tmp 65) rfl rfl rfl rfl rfl rfl (fun hg2 => ?_) ?_
    rotate_left
    · try replace hg2 := of_decide_eq_false hg2
      refine QOps.st rfl rfl (Yv.move rfl).yl ?_
      refine QOps.st rfl rfl (Yv.move rfl).yl ?_
      refine QOps.st rfl rfl (Yv.neB bool4 rfl rfl).yl ?_
      exact QOps.nil rfl
    refine QOps.nil ?_
    refine Run.cond rfl (fun hc2 => ?_) (fun hc2 => ?_)
    · exfalso
      first | (simp at hc2; done) | (simp at hc2; omega) | omega
    · try replace hc2 := of_decide_eq_false hc2
      refine Run.skip ?_
      refine Run.seq ?_
      refine Run.seq ?_
      refine Run.ops ?_
      refine SOps.st rfl rfl (Yv.move rfl).yl ?_
      refine SOps.st rfl rfl (Yv.move rfl).yl ?_
      refine SOps.one rfl (One.callRow rfl callable16 (.cons rfl (.nil)) (fun w' hw' => toBookingS_spec ((Rd.arg hs) w' hw') (by omega)) (fun A5 c5 => ?_))
      refine SOps.st rfl rfl (Yl.call callable18 (.cons rfl (.cons rfl (.nil))) (fun w' hw' => eqBookingS_spec ((Rd.row (i := 2) rfl) w' hw') ((Rd.row (i := 0) rfl) w' hw'))) ?_
      refine SOps.st rfl rfl (Yv.not rfl).yl ?_
      refine SOps.nil ?_
      refine Run.cond rfl (fun hc3 => ?_) (fun hc3 => ?_)
      · exfalso
        first | (simp at hc3; done) | (simp at hc3; omega) | omega
      · try replace hc3 := of_decide_eq_false hc3
        refine Run.skip ?_
        refine Run.seq ?_
        refine Run.quiet (by intro h; cases h) ?_
        refine QOps.st rfl rfl (Yv.assign rfl).yl ?_
        refine QOps.nil ?_
        refine Run.seq ?_
        refine Run.ops ?_
        refine SOps.st rfl rfl (Yv.move rfl).yl ?_
        refine SOps.st rfl rfl (Yv.move rfl).yl ?_
        refine SOps.one rfl (One.callMut (i := 2) (H' := [_, _, _, _, _]) rfl callable25 (.cons rfl (.cons rfl (.nil))) rfl (fun w' hw' => markBookingS_spec (hw'.ent _ (List.mem_of_getElem? (i := 2) rfl)) (by omega) (by omega) (by omega)) rfl ?_)
        refine SOps.st rfl rfl (Yv.assign rfl).yl ?_
        refine SOps.nil ?_
        refine Run.seq ?_
        refine Run.seq ?_
        refine Run.quiet (by intro h; cases h) ?_
        refine QOps.st rfl rfl (Yv.move rfl).yl ?_
        refine QOps.st rfl rfl (Yv.lss rfl rfl).yl ?_
        refine QOps.st rfl rfl (Yv.move rfl).yl ?_
        refine' QOps.or [_, _, _, _] _ (.tmp 81) rfl rfl rfl rfl rfl rfl (fun hg3 => ?_) ?_
        rotate_left
        · try replace hg3 := of_decide_eq_false hg3
          refine QOps.st rfl rfl (Yv.move rfl).yl ?_
          refine QOps.st rfl rfl (Yv.move rfl).yl ?_
          refine QOps.st rfl rfl (Yl.call callable18 (.cons rfl (.cons rfl (.nil))) (fun w' hw' => eqBookingS_spec ((Rd.row (i := 1) rfl) w' hw') ((Rd.row (i := 3) rfl) w' hw'))) ?_
          refine QOps.st rfl rfl (Yv.not rfl).yl ?_
          exact QOps.nil rfl
        refine QOps.st rfl rfl (Yv.move rfl).yl ?_
        refine' QOps.or [_, _, _] _ (.tmp 86) rfl rfl rfl rfl rfl rfl (fun hg4 => ?_) ?_
        rotate_left
        · try replace hg4 := of_decide_eq_false hg4
          refine QOps.st rfl rfl (Yv.move rfl).yl ?_
          refine QOps.st rfl rfl (Yv.move rfl).yl ?_
          refine QOps.st rfl rfl (Yv.neI rfl rfl).yl ?_
          exact QOps.nil rfl
        refine QOps.st rfl rfl (Yv.move rfl).yl ?_
        refine' QOps.or [_, _, _] _ (.tmp 91) rfl rfl rfl rfl rfl rfl (fun hg5 => ?_) ?_
        rotate_left
        · try replace hg5 := of_decide_eq_false hg5
          refine QOps.st rfl rfl (Yv.move rfl).yl ?_
          refine QOps.st rfl rfl (Yv.move rfl).yl ?_
          refine QOps.st rfl rfl (Yv.neB bool4 rfl rfl).yl ?_
          exact QOps.nil rfl
        refine QOps.nil ?_
        refine Run.cond rfl (fun hc4 => ?_) (fun hc4 => ?_)
        · exfalso
          first | (simp at hc4; done) | (simp at hc4; omega) | omega
        · try replace hc4 := of_decide_eq_false hc4
          refine Run.skip ?_
          refine Run.seq ?_
          refine Run.quiet (by intro h; cases h) ?_
          refine QOps.st rfl rfl (Yv.assign rfl).yl ?_
          refine QOps.nil ?_
          refine Run.seq ?_
          refine Run.ops ?_
          refine SOps.st rfl rfl (Yv.move rfl).yl ?_
          refine SOps.st rfl rfl (Yv.move rfl).yl ?_
          refine SOps.one rfl (One.callMut (i := 1) (H' := [_, _, _, _, _]) rfl callable25 (.cons rfl (.cons rfl (.nil))) rfl (fun w' hw' => markBookingS_spec (hw'.ent _ (List.mem_of_getElem? (i := 1) rfl)) (by omega) (by omega) (by omega)) rfl ?_)
          refine SOps.st rfl rfl (Yv.assign rfl).yl ?_
          refine SOps.nil ?_
          refine Run.seq ?_
          refine Run.quiet (by intro h; cases h) ?_
          refine QOps.st rfl rfl (Yv.assign rfl).yl ?_
          refine QOps.nil ?_
          refine Run.seq ?_
          refine Run.quiet (by intro h; cases h) ?_
          refine QOps.st rfl rfl (Yv.move rfl).yl ?_
          refine QOps.st rfl rfl (Yv.move rfl).yl ?_
          refine QOps.st rfl rfl (Yl.call callable26 (.cons rfl (.cons rfl (.nil))) (fun w' hw' => heldBookingS_spec ((Rd.row (i := 1) rfl) w' hw') (by omega) (by omega) (by omega))) ?_
          refine QOps.st rfl rfl (Yv.assign rfl).yl ?_
          refine QOps.nil ?_
          refine Run.seq ?_
          refine Run.seq ?_
          refine Run.quiet (by intro h; cases h) ?_
          refine QOps.st rfl rfl (Yv.move rfl).yl ?_
          refine QOps.st rfl rfl (Yv.lss rfl rfl).yl ?_
          refine QOps.nil ?_
          refine Run.cond rfl (fun hc5 => ?_) (fun hc5 => ?_)
          · exfalso
            first | (simp at hc5; done) | (simp at hc5; omega) | omega
          · try replace hc5 := of_decide_eq_false hc5
            refine Run.skip ?_
            refine Run.seq ?_
            refine Run.seq ?_
            refine Run.quiet (by intro h; cases h) ?_
            refine QOps.st rfl rfl (Yv.move rfl).yl ?_
            refine QOps.st rfl rfl (Yv.move rfl).yl ?_
            refine QOps.st rfl rfl (Yv.neI rfl rfl).yl ?_
            refine QOps.nil ?_
            refine Run.cond rfl (fun hc6 => ?_) (fun hc6 => ?_)
            · exfalso
              first | (simp at hc6; done) | (simp at hc6; omega) | omega
            · try replace hc6 := of_decide_eq_false hc6
              refine Run.skip ?_
              refine Run.seq ?_
              refine Run.ops ?_
              refine SOps.st rfl rfl (Yv.move rfl).yl ?_
              refine SOps.st rfl rfl (Yv.move rfl).yl ?_
              refine SOps.one rfl (One.callRow rfl callable16 (.cons rfl (.nil)) (fun w' hw' => toBookingS_spec ((Rd.arg hs) w' hw') (by omega)) (fun A6 c6 => ?_))
              refine SOps.st rfl rfl (Yv.move rfl).yl ?_
              refine SOps.st rfl rfl (Yv.move rfl).yl ?_
              refine SOps.st rfl rfl (Yv.move rfl).yl ?_
              refine SOps.one rfl (One.callRow rfl callable24 (.cons rfl (.cons rfl (.cons rfl (.cons rfl (.cons rfl (.nil)))))) (fun w' hw' => BookSlot_spec ((Rd.row (i := 0) rfl) w' hw') (by omega)) (fun A7 c7 => ?_))
              refine SOps.st rfl rfl (Yv.move rfl).yl ?_
              refine SOps.st rfl rfl (Yv.extract rfl rfl).yl ?_
              refine SOps.st rfl rfl (Yv.extract rfl rfl).yl ?_
              refine SOps.st rfl rfl (Yv.extract rfl rfl).yl ?_
              refine SOps.st rfl rfl (Yv.assign rfl).yl ?_
              refine SOps.st rfl rfl (Yv.assign rfl).yl ?_
              refine SOps.st rfl rfl (Yv.assign rfl).yl ?_
              refine SOps.nil ?_
              refine Run.seq ?_
              refine Run.seq ?_
              refine Run.quiet (by intro h; cases h) ?_
              refine QOps.st rfl rfl (Yv.move rfl).yl ?_
              refine QOps.st rfl rfl (Yv.move rfl).yl ?_
              refine QOps.st rfl rfl (Yl.call callable18 (.cons rfl (.cons rfl (.nil))) (fun w' hw' => eqBookingS_spec ((Rd.row (i := 0) rfl) w' hw') ((Rd.row (i := 5) rfl) w' hw'))) ?_
              refine QOps.st rfl rfl (Yv.not rfl).yl ?_
              refine QOps.st rfl rfl (Yv.move rfl).yl ?_
              refine' QOps.or [_, _, _] _ (.tmp 122) rfl rfl rfl rfl rfl rfl (fun hg6 => ?_) ?_
              rotate_left
              · try replace hg6 := of_decide_eq_false hg6
                refine QOps.st rfl rfl (Yv.move rfl).yl ?_
                refine QOps.st rfl rfl (Yv.move rfl).yl ?_
                refine QOps.st rfl rfl (Yv.neI rfl rfl).yl ?_
                exact QOps.nil rfl
              refine QOps.st rfl rfl (Yv.move rfl).yl ?_
              refine' QOps.or [_, _, _] _ (.tmp 127) rfl rfl rfl rfl rfl rfl (fun hg7 => ?_) ?_
              rotate_left
              · try replace hg7 := of_decide_eq_false hg7
                refine QOps.st rfl rfl (Yv.move rfl).yl ?_
                refine QOps.st rfl rfl (Yv.move rfl).yl ?_
                refine QOps.st rfl rfl (Yv.neB bool4 rfl rfl).yl ?_
                exact QOps.nil rfl
              refine QOps.nil ?_
              refine Run.cond rfl (fun hc7 => ?_) (fun hc7 => ?_)
              · exfalso
                first | (simp at hc7; done) | (simp at hc7; omega) | omega
              · try replace hc7 := of_decide_eq_false hc7
                refine Run.skip ?_
                refine Run.seq ?_
                refine Run.quiet (by intro h; cases h) ?_
                refine QOps.st rfl rfl (Yv.assign rfl).yl ?_
                refine QOps.nil ?_
                refine Run.seq ?_
                refine Run.quiet (by intro h; cases h) ?_
                refine QOps.st rfl rfl (Yv.move rfl).yl ?_
                refine QOps.st rfl rfl (Yv.move rfl).yl ?_
                refine QOps.st rfl rfl (Yl.call callable26 (.cons rfl (.cons rfl (.nil))) (fun w' hw' => heldBookingS_spec ((Rd.row (i := 3) rfl) w' hw') (by omega) (by omega) (by omega))) ?_
                refine QOps.st rfl rfl (Yv.assign rfl).yl ?_
                refine QOps.nil ?_
                refine Run.seq ?_
                refine Run.seq ?_
                refine Run.quiet (by intro h; cases h) ?_
                refine QOps.st rfl rfl (Yv.move rfl).yl ?_
                refine QOps.st rfl rfl (Yv.lss rfl rfl).yl ?_
                refine QOps.nil ?_
                refine Run.cond rfl (fun hc8 => ?_) (fun hc8 => ?_)
                · exfalso
                  first | (simp at hc8; done) | (simp at hc8; omega) | omega
                · try replace hc8 := of_decide_eq_false hc8
                  refine Run.skip ?_
                  refine Run.seq ?_
                  refine Run.seq ?_
                  refine Run.quiet (by intro h; cases h) ?_
                  refine QOps.st rfl rfl (Yv.move rfl).yl ?_
                  refine QOps.st rfl rfl (Yv.move rfl).yl ?_
                  refine QOps.st rfl rfl (Yv.neI rfl rfl).yl ?_
                  refine QOps.nil ?_
                  refine Run.cond rfl (fun hc9 => ?_) (fun hc9 => ?_)
                  · exfalso
                    first | (simp at hc9; done) | (simp at hc9; omega) | omega
                  · try replace hc9 := of_decide_eq_false hc9
                    refine Run.skip ?_
                    refine Run.seq ?_
                    refine Run.quiet (by intro h; cases h) ?_
                    refine QOps.st rfl rfl (Yv.assign rfl).yl ?_
                    refine QOps.nil ?_
                    refine Run.ret ?_
                    refine retQ.of (.inr rfl) rfl (.tmp rfl .nil) (fun w' hw' => ?_)
                    refine ⟨?_, hw'.bel.below⟩
                    exact rfl

end Go.Proofs.Ythgekachgpcjbaa
