/- Bookings: the law of a booked voyage's slots. Conditions: none. -/
import Derived.Test.YthgekachgpcjbaaBooC
namespace Go.Proofs.Ythgekachgpcjbaa
open Go.RowKit
set_option maxRecDepth 100000
/-- Pairs with locks one behind the other. -/
def pr (lock : Int) : List Int → List (List Int)
  | [] => []
  | s :: r => [lock, s] :: pr (lock + 1) r
/-- Slots that rise, from one on. -/
def Asc (slot : Int) : List Int → Prop
  | [] => True
  | s :: r => slot ≤ s ∧ Asc (s + 1) r
theorem pr_len : ∀ {ss : List Int} {lock : Int}, (pr lock ss).length = ss.length
  | [], _ => rfl
  | _ :: r, _ => by simp [pr, pr_len]
theorem nth_cons_succ {α : Type} [Inhabited α] {a : α} {l : List α} {i : Nat} : nth (a :: l) (i + 1) = nth l i := by simp [nth]
theorem nth_cons_zero {α : Type} [Inhabited α] {a : α} {l : List α} : nth (a :: l) 0 = a := by simp [nth]
theorem pr_good : ∀ {ss : List Int} {lock slot : Int}, Asc slot ss → ∀ i, i + 1 < ss.length → goodP (pr lock ss) i = true
  | [], _, _, _, i, hi => by simp at hi
  | [_], _, _, _, i, hi => by simp at hi
  | a :: b :: r, lock, slot, h, 0, _ => by
    have h1 : a + 1 ≤ b := h.2.1
    simp [goodP, pr, nth]
    omega
  | a :: b :: r, lock, slot, h, i + 1, hi => by
    have ih := pr_good (lock := lock + 1) h.2 i (by simpa using hi)
    unfold goodP at ih ⊢
    rw [pr, nth_cons_succ, nth_cons_succ]
    exact ih
theorem srtL_self {α : Type} [Inhabited α] {lt : α → α → Bool} {s : List α} (h : Adj lt s) : ∀ {k : Nat}, k ≤ s.length → srtL lt s k = s.take k
  | 0, _ => by simp [srtL]
  | k + 1, hk => by
    have e : posL lt (nth s k) (s.take k) k = k := posL_stop (fun h0 => by
      have h1 := h (k - 1) (by omega)
      rw [show k - 1 + 1 = k by omega] at h1
      have h2 : nth (s.take k) (k - 1) = nth s (k - 1) := by simp [nth, show k - 1 < k by omega]
      rw [h2, h1]
      simp)
    have hl : (s.take k).length = k := by simp; omega
    rw [srtL, srtL_self h (by omega)]
    unfold insL
    rw [hl, e, List.take_of_length_le (by omega), List.drop_of_length_le (by omega), List.take_add_one, nth_get (show k < s.length by omega)]
    simp
theorem pairs_app {bs : List Booking} {b : Booking} {v : Int} : ∀ {k : Nat}, k ≤ bs.length → pairsTo (bs ++ [b]) v k = pairsTo bs v k
  | 0, _ => rfl
  | k + 1, h => by rw [pairsTo, pairsTo, pairs_app (by omega), nth_app (by omega)]
theorem pairs_more {bs : List Booking} {b : Booking} {v : Int} (h : b.vessel = v) : pairsTo (bs ++ [b]) v (bs ++ [b]).length = pairsTo bs v bs.length ++ [[b.lock, b.slot]] := by
  have e : nth (bs ++ [b]) bs.length = b := by simp [nth]
  rw [show (bs ++ [b]).length = bs.length + 1 by simp, pairsTo, pairs_app (Nat.le_refl _), e, if_pos h]
theorem voy_pairs {room v : Int} : ∀ {f : Nat} {bs : List Booking} {lock slot : Int}, (voyGo room v f bs lock slot).2 = true → ∃ ss : List Int, ss.length = f ∧ Asc slot ss ∧ pairsTo (voyGo room v f bs lock slot).1 v (voyGo room v f bs lock slot).1.length = pairsTo bs v bs.length ++ pr lock ss
  | 0, bs, lock, slot, h => ⟨[], rfl, trivial, by simp [voyGo, pr]⟩
  | f + 1, bs, lock, slot, h => by
    rw [voyGo] at h ⊢
    split at h
    · rename_i h1
      rw [if_pos h1]
      obtain ⟨ss, h2, h3, h4⟩ := voy_pairs h
      have hb := booked h1
      have e1 : (bookOf room bs v lock slot).1 = bookedB room bs v lock slot := by rw [hb.is_]
      have e2 : lastSlot (bookedB room bs v lock slot) = freeOf room bs lock slot := by unfold lastSlot; rw [hb.last]
      rw [e1, e2] at h3
      refine ⟨freeOf room bs lock slot :: ss, by simp [h2], ⟨hb.ge.1, h3⟩, ?_⟩
      rw [h4, e1]
      unfold bookedB
      rw [pairs_more rfl, pr]
      simp
    · cases h
theorem voy_are {room v : Int} : ∀ {f : Nat} {bs : List Booking} {lock slot : Int}, 0 < f → (voyGo room v f bs lock slot).2 = true → areBookings room bs = true ∧ inB v 1 99 = true
  | 0, _, _, _, h0, _ => by omega
  | f + 1, bs, lock, slot, _, h => by
    rw [voyGo] at h
    split at h
    · rename_i h1
      refine ⟨(bookOf_shape h1).1, ?_⟩
      by_cases h2 : inB v 1 99 = true
      · exact h2
      · rw [bookOf_v (by simpa using h2)] at h1
        cases h1
    · cases h
theorem voy_are2 {room v : Int} : ∀ {f : Nat} {bs : List Booking} {lock slot : Int}, areBookings room bs = true → (voyGo room v f bs lock slot).2 = true → areBookings room (voyGo room v f bs lock slot).1 = true
  | 0, _, _, _, ha, _ => ha
  | f + 1, bs, lock, slot, ha, h => by
    rw [voyGo] at h ⊢
    split at h
    · rename_i h1
      rw [if_pos h1]
      exact voy_are2 (bookOf_good h1).1 h
    · cases h
structure Voyed (room : Int) (bs : List Booking) (v fr to slot : Int) : Prop where
  one : voyOk room bs v = true
  two : voyOk room (voyOf room bs v fr to slot).1 v = true
  len : ((voyL room (voyOf room bs v fr to slot).1 v).length : Int) = (voyL room bs v).length + to - fr + 1
  up : (voyL room bs v).length = 0 → upB room (voyOf room bs v fr to slot).1 v = true
  bnd : 0 ≤ fr ∧ fr ≤ 4 ∧ 0 ≤ to ∧ to ≤ 4
theorem voyed {room v fr to slot : Int} {bs : List Booking} (h : (voyOf room bs v fr to slot).2 = true) : Voyed room bs v fr to slot := by
  unfold voyOf at h
  split at h
  · rename_i h1
    have e : voyOf room bs v fr to slot = voyGo room v (to + 1 - fr).toNat bs fr slot := by unfold voyOf; rw [if_pos h1]
    simp only [voyAsked, Bool.and_eq_true, inB_iff, Bool.not_eq_true', decide_eq_false_iff_not] at h1
    obtain ⟨a1, a2⟩ := voy_are (by omega) h
    have a3 := voy_are2 a1 h
    obtain ⟨ss, s1, s2, s3⟩ := voy_pairs h
    have o1 : voyOk room bs v = true := by unfold voyOk; rw [a1, a2]; rfl
    have o2 : voyOk room (voyOf room bs v fr to slot).1 v = true := by unfold voyOk; rw [e, a3, a2]; rfl
    have l1 : voyL room bs v = voyS bs v bs.length := by unfold voyL; rw [if_pos o1]
    have l2 : voyL room (voyOf room bs v fr to slot).1 v = voyS (voyOf room bs v fr to slot).1 v (voyOf room bs v fr to slot).1.length := by unfold voyL; rw [if_pos o2]
    refine ⟨o1, o2, ?_, fun h0 => ?_, by omega⟩
    · rw [l1, l2, voyS_len, voyS_len, e, s3, List.length_append, pr_len, s1]
      omega
    · rw [l1, voyS_len] at h0
      have h2 : pairsTo (voyOf room bs v fr to slot).1 v (voyOf room bs v fr to slot).1.length = pr fr ss := by
        rw [e, s3, List.eq_nil_of_length_eq_zero h0, List.nil_append]
      have hg := pr_good (lock := fr) s2
      have hadj : Adj lt2 (pr fr ss) := fun i hi => by
        have h3 := hg i (by rwa [pr_len] at hi)
        simp [goodP] at h3
        simp [lt2]
        omega
      have h4 : voyL room (voyOf room bs v fr to slot).1 v = pr fr ss := by
        rw [l2]
        unfold voyS
        rw [h2, srtL_self hadj (Nat.le_refl _), List.take_length]
      unfold upB upward
      rw [o2, h4, allTo_iff.2 (fun i hi => hg i (by rw [pr_len] at hi; omega))]
      rfl
  · cases h
theorem DrawBookVoyage_spec {w : World} {A : Option Addr} {c : Nat} {xs : List UInt8} (hs : Sl w 1 A xs.length c (xs.flatMap byteC)) :
    Calls Try.prog 46 #[.slice A xs.length c] w (RetER w 49 4 Booking.enc (fun (x : Int × List Booking × Int × Int × Int × Int) => x.2.1) (fun x v => .tuple #[.int .i64 x.1, v, .int .i64 x.2.2.1, .int .i64 x.2.2.2.1, .int .i64 x.2.2.2.2.1, .int .i64 x.2.2.2.2.2]) (fun x => x.2.1.length ≤ 20)) := by
  refine calls_of_run (vs := [_]) (L := [(0, _)]) (n := 38) (F := []) (H := []) Try.func46 rfl rfl rfl rfl (HOk.start _) ?_
  refine Run.seq ?_
  refine Run.quiet (by intro h; cases h) ?_
  refine QOps.st rfl rfl (Yv.assign rfl).yl ?_
  refine QOps.st rfl rfl (Yv.assign rfl).yl ?_
  refine QOps.st rfl rfl (Yv.assign rfl).yl ?_
  refine QOps.st rfl rfl (Yv.assign rfl).yl ?_
  refine QOps.st rfl rfl (Yv.assign rfl).yl ?_
  refine QOps.st rfl rfl (Yv.assign rfl).yl ?_
  refine QOps.nil ?_
  refine Run.seq ?_
  refine Run.ops ?_
  refine SOps.st rfl rfl (Yv.move rfl).yl ?_
  refine SOps.st rfl rfl (Yv.buildG (pv := [(0, _)]) (cs := [_, _, _]) (fun l => match l with | [a0_0] => [a0_0, .int .i64 0, .int .u64 0] | _ => []) (.cons rfl (.nil)) rfl rfl (by kernel_rfl)).yl ?_
  refine SOps.one rfl (One.box (cs := [_, _, _]) rfl rfl rfl (fun b1 => ?_))
  refine SOps.st rfl rfl (Yv.assign rfl).yl ?_
  refine SOps.nil ?_
  refine Run.seq ?_
  refine Run.ops ?_
  refine SOps.st rfl rfl (Yv.move rfl).yl ?_
  refine SOps.one rfl (One.callC (i := 0) (H' := fun _ _ => [_]) rfl callable67 (.cons rfl (.nil)) rfl (fun w' hw' => room_spec (Cur.own hs (i := 0) rfl hw') (by omega) (by omega)) (fun _ _ => rfl) (fun x1 at1 sd1 _ ha1 hb1 => ?_))
  refine SOps.st rfl rfl (Yv.assign rfl).yl ?_
  refine SOps.nil ?_
  refine Run.seq ?_
  refine Run.ops ?_
  refine SOps.st rfl rfl (Yv.move rfl).yl ?_
  refine SOps.st rfl rfl (Yv.move rfl).yl ?_
  refine SOps.one rfl (One.callCR (i := 0) (H' := fun _ _ => [_]) rfl callable68 (.cons rfl (.cons rfl (.nil))) rfl (fun w' hw' => bookings_spec (Cur.own hs (i := 0) rfl hw') (by omega) (by omega)) (fun _ _ => rfl) (fun x2 Aq2 cq2 at2 sd2 hx2 ha2 hb2 => ?_))
  refine SOps.st rfl rfl (Yv.assign rfl).yl ?_
  refine SOps.nil ?_
  refine Run.seq ?_
  refine Run.ops ?_
  refine SOps.st rfl rfl (Yv.move rfl).yl ?_
  refine SOps.one rfl (One.callC (i := 1) (H' := fun _ _ => [_, _]) rfl callable70 (.cons rfl (.nil)) rfl (fun w' hw' => lock18_spec (Cur.own hs (i := 1) rfl hw') (by omega) (by omega)) (fun _ _ => rfl) (fun x3 at3 sd3 _ ha3 hb3 => ?_))
  refine SOps.st rfl rfl (Yv.assign rfl).yl ?_
  refine SOps.nil ?_
  refine Run.seq ?_
  refine Run.ops ?_
  refine SOps.st rfl rfl (Yv.move rfl).yl ?_
  refine SOps.st rfl rfl (Yv.move rfl).yl ?_
  refine SOps.st rfl rfl (Yv.move rfl).yl ?_
  refine SOps.one rfl (One.buildSliceG (pv := [(0, _), (1, _), (2, _), (3, _), (4, _), (5, _), (6, _)]) (cs := [_, _, _, _, _, _, _]) (fun l => match l with | [a0_0, a1_0, a2_0, a3_0, a4_0, a5_0, a6_0] => [a0_0, a1_0, a2_0, a3_0, a4_0, a5_0, a6_0] | _ => []) rfl el85 (.cons rfl (.cons rfl (.cons rfl (.cons rfl (.cons rfl (.cons rfl (.cons rfl (.nil)))))))) rfl rfl (by kernel_rfl) rfl rfl (fun b2 => ?_))
  refine SOps.one rfl (One.callC (i := 2) (H' := fun _ _ => [_, _, _]) rfl callable79 (.cons rfl (.cons rfl (.nil))) rfl (fun w' hw' => among_spec (Cur.own hs (i := 2) rfl hw') (by omega) (by omega) (l := [1, 2, 5, 6, 7, 99, 0]) ((Rd.row (i := 0) rfl) w' hw') (by simp; try omega) (by first | omega | simp) (by first | omega | simp) (fun hm => HOk.rowNe hw' (i := 2) (j := 0) rfl rfl rfl (by first | exact hm | omega))) (fun _ _ => rfl) (fun x4 at4 sd4 hx4 ha4 hb4 => ?_))
  refine SOps.st rfl rfl (Yv.move rfl).yl ?_
  refine SOps.st rfl rfl (Yv.move rfl).yl ?_
  refine SOps.st rfl rfl (Yv.move rfl).yl ?_
  refine SOps.one rfl (One.callC (i := 2) (H' := fun _ _ => [_, _, _]) rfl callable80 (.cons rfl (.cons rfl (.nil))) rfl (fun w' hw' => pick_spec (Cur.own hs (i := 2) rfl hw') (by omega) (by omega)) (fun _ _ => rfl) (fun x5 at5 sd5 ⟨hxl5, hxh5⟩ ha5 hb5 => ?_))
  refine SOps.st rfl rfl (Yv.addW rfl rfl).yl ?_
  refine SOps.st rfl rfl (Yv.move rfl).yl ?_
  refine SOps.one rfl (One.callC (i := 2) (H' := fun _ _ => [_, _, _]) rfl callable80 (.cons rfl (.cons rfl (.nil))) rfl (fun w' hw' => pick_spec (Cur.own hs (i := 2) rfl hw') (by omega) (by omega)) (fun _ _ => rfl) (fun x6 at6 sd6 ⟨hxl6, hxh6⟩ ha6 hb6 => ?_))
  refine SOps.st rfl rfl (Yv.quoP rfl rfl (by omega) (by omega) (by omega)).yl ?_
  refine SOps.st rfl rfl (Yv.subW rfl rfl).yl ?_
  refine SOps.st rfl rfl (Yv.move rfl).yl ?_
  refine SOps.one rfl (One.callC (i := 2) (H' := fun _ _ => [_, _, _]) rfl callable71 (.cons rfl (.nil)) rfl (fun w' hw' => slot18_spec (Cur.own hs (i := 2) rfl hw') (by omega) (by omega)) (fun _ _ => rfl) (fun x7 at7 sd7 _ ha7 hb7 => ?_))
  refine SOps.st rfl rfl (Yv.assign rfl).yl ?_
  refine SOps.st rfl rfl (Yv.assign rfl).yl ?_
  refine SOps.st rfl rfl (Yv.assign rfl).yl ?_
  refine SOps.st rfl rfl (Yv.assign rfl).yl ?_
  refine SOps.st rfl rfl (Yv.assign rfl).yl ?_
  refine SOps.st rfl rfl (Yv.assign rfl).yl ?_
  refine SOps.nil ?_
  refine Run.ret ?_
  refine retQ.of (.inr rfl) rfl (.tmp rfl (.tmp rfl (.tmp rfl (.tmp rfl (.tmp rfl (.tmp rfl .nil)))))) (fun w' hw' => ?_)
  exact retER_of ((x1, x2, x4, x3, _, _)) (by first | rfl | simp) rfl (by omega) hw'.bel.below (hw'.ent _ (List.mem_of_getElem? (i := 1) rfl)) (fun b hb => (hw'.own _ (List.mem_of_getElem? (i := 1) rfl) b hb).elim id (by simp))

theorem DrawVoyageSlots_spec {w : World} {A : Option Addr} {c : Nat} {xs : List UInt8} (hs : Sl w 1 A xs.length c (xs.flatMap byteC)) :
    Calls Try.prog 81 #[.slice A xs.length c] w (RetER w 49 4 Booking.enc (fun (x : Int × List Booking × Int) => x.2.1) (fun x v => .tuple #[.int .i64 x.1, v, .int .i64 x.2.2]) (fun x => x.2.1.length ≤ 20)) := by
  refine calls_of_run (vs := [_]) (L := [(0, _)]) (n := 20) (F := []) (H := []) Try.func81 rfl rfl rfl rfl (HOk.start _) ?_
  refine Run.seq ?_
  refine Run.quiet (by intro h; cases h) ?_
  refine QOps.st rfl rfl (Yv.assign rfl).yl ?_
  refine QOps.st rfl rfl (Yv.assign rfl).yl ?_
  refine QOps.st rfl rfl (Yv.assign rfl).yl ?_
  refine QOps.nil ?_
  refine Run.seq ?_
  refine Run.ops ?_
  refine SOps.st rfl rfl (Yv.move rfl).yl ?_
  refine SOps.st rfl rfl (Yv.buildG (pv := [(0, _)]) (cs := [_, _, _]) (fun l => match l with | [a0_0] => [a0_0, .int .i64 0, .int .u64 0] | _ => []) (.cons rfl (.nil)) rfl rfl (by kernel_rfl)).yl ?_
  refine SOps.one rfl (One.box (cs := [_, _, _]) rfl rfl rfl (fun b1 => ?_))
  refine SOps.st rfl rfl (Yv.assign rfl).yl ?_
  refine SOps.nil ?_
  refine Run.seq ?_
  refine Run.ops ?_
  refine SOps.st rfl rfl (Yv.move rfl).yl ?_
  refine SOps.one rfl (One.callC (i := 0) (H' := fun _ _ => [_]) rfl callable67 (.cons rfl (.nil)) rfl (fun w' hw' => room_spec (Cur.own hs (i := 0) rfl hw') (by omega) (by omega)) (fun _ _ => rfl) (fun x1 at1 sd1 _ ha1 hb1 => ?_))
  refine SOps.st rfl rfl (Yv.assign rfl).yl ?_
  refine SOps.nil ?_
  refine Run.seq ?_
  refine Run.ops ?_
  refine SOps.st rfl rfl (Yv.move rfl).yl ?_
  refine SOps.st rfl rfl (Yv.move rfl).yl ?_
  refine SOps.one rfl (One.callCR (i := 0) (H' := fun _ _ => [_]) rfl callable68 (.cons rfl (.cons rfl (.nil))) rfl (fun w' hw' => bookings_spec (Cur.own hs (i := 0) rfl hw') (by omega) (by omega)) (fun _ _ => rfl) (fun x2 Aq2 cq2 at2 sd2 hx2 ha2 hb2 => ?_))
  refine SOps.st rfl rfl (Yv.assign rfl).yl ?_
  refine SOps.nil ?_
  refine Run.seq ?_
  refine Run.ops ?_
  refine SOps.st rfl rfl (Yv.move rfl).yl ?_
  refine SOps.st rfl rfl (Yv.move rfl).yl ?_
  refine SOps.st rfl rfl (Yv.move rfl).yl ?_
  refine SOps.one rfl (One.callC (i := 1) (H' := fun _ _ => [_, _]) rfl callable69 (.cons rfl (.nil)) rfl (fun w' hw' => vessel18_spec (Cur.own hs (i := 1) rfl hw') (by omega) (by omega)) (fun _ _ => rfl) (fun x3 at3 sd3 _ ha3 hb3 => ?_))
  refine SOps.st rfl rfl (Yv.assign rfl).yl ?_
  refine SOps.st rfl rfl (Yv.assign rfl).yl ?_
  refine SOps.st rfl rfl (Yv.assign rfl).yl ?_
  refine SOps.nil ?_
  refine Run.ret ?_
  refine retQ.of (.inr rfl) rfl (.tmp rfl (.tmp rfl (.tmp rfl .nil))) (fun w' hw' => ?_)
  exact retER_of ((x1, x2, x3)) (by first | rfl | simp) rfl (by omega) hw'.bel.below (hw'.ent _ (List.mem_of_getElem? (i := 0) rfl)) (fun b hb => (hw'.own _ (List.mem_of_getElem? (i := 0) rfl) b hb).elim id (by simp))

theorem DrawIsUpward_spec {w : World} {A : Option Addr} {c : Nat} {xs : List UInt8} (hs : Sl w 1 A xs.length c (xs.flatMap byteC)) :
    Calls Try.prog 47 #[.slice A xs.length c] w (RetER w 49 4 Booking.enc (fun (x : Int × List Booking × Int) => x.2.1) (fun x v => .tuple #[.int .i64 x.1, v, .int .i64 x.2.2]) (fun x => x.2.1.length ≤ 20)) := by
  refine calls_of_run (vs := [_]) (L := [(0, _)]) (n := 10) (F := []) (H := []) Try.func47 rfl rfl rfl rfl (HOk.start _) ?_
  refine Run.seq ?_
  refine Run.quiet (by intro h; cases h) ?_
  refine QOps.st rfl rfl (Yv.assign rfl).yl ?_
  refine QOps.st rfl rfl (Yv.assign rfl).yl ?_
  refine QOps.st rfl rfl (Yv.assign rfl).yl ?_
  refine QOps.nil ?_
  refine Run.seq ?_
  refine Run.ops ?_
  refine SOps.st rfl rfl (Yv.move rfl).yl ?_
  refine SOps.one rfl (One.callER rfl callable81 (.cons rfl (.nil)) (fun w' hw' => DrawVoyageSlots_spec ((Rd.arg hs) w' hw')) ?_)
  rintro ⟨ya1, yb1, yd1⟩ Aq1 cq1 hx1
  try dsimp only at *
  refine SOps.st rfl rfl (Yv.extract rfl rfl).yl ?_
  refine SOps.st rfl rfl (Yv.extract rfl rfl).yl ?_
  refine SOps.st rfl rfl (Yv.extract rfl rfl).yl ?_
  refine SOps.st rfl rfl (Yv.assign rfl).yl ?_
  refine SOps.st rfl rfl (Yv.assign rfl).yl ?_
  refine SOps.st rfl rfl (Yv.assign rfl).yl ?_
  refine SOps.nil ?_
  refine Run.ret ?_
  refine retQ.of (.inr rfl) rfl (.tmp rfl (.tmp rfl (.tmp rfl .nil))) (fun w' hw' => ?_)
  exact retER_of ((_, yb1, _)) (by first | rfl | simp) rfl (by first | exact hx1 | omega) hw'.bel.below (hw'.ent _ (List.mem_of_getElem? (i := 0) rfl)) (fun b hb => (hw'.own _ (List.mem_of_getElem? (i := 0) rfl) b hb).elim id (by simp))

theorem DrawAreBookings_spec {w : World} {A : Option Addr} {c : Nat} {xs : List UInt8} (hs : Sl w 1 A xs.length c (xs.flatMap byteC)) :
    Calls Try.prog 83 #[.slice A xs.length c] w (RetER w 49 4 Booking.enc (fun (x : Int × List Booking) => x.2) (fun x v => .tuple #[.int .i64 x.1, v]) (fun x => x.2.length ≤ 20)) := by
  refine calls_of_run (vs := [_]) (L := [(0, _)]) (n := 15) (F := []) (H := []) Try.func83 rfl rfl rfl rfl (HOk.start _) ?_
  refine Run.seq ?_
  refine Run.quiet (by intro h; cases h) ?_
  refine QOps.st rfl rfl (Yv.assign rfl).yl ?_
  refine QOps.st rfl rfl (Yv.assign rfl).yl ?_
  refine QOps.nil ?_
  refine Run.seq ?_
  refine Run.ops ?_
  refine SOps.st rfl rfl (Yv.move rfl).yl ?_
  refine SOps.st rfl rfl (Yv.buildG (pv := [(0, _)]) (cs := [_, _, _]) (fun l => match l with | [a0_0] => [a0_0, .int .i64 0, .int .u64 0] | _ => []) (.cons rfl (.nil)) rfl rfl (by kernel_rfl)).yl ?_
  refine SOps.one rfl (One.box (cs := [_, _, _]) rfl rfl rfl (fun b1 => ?_))
  refine SOps.st rfl rfl (Yv.assign rfl).yl ?_
  refine SOps.nil ?_
  refine Run.seq ?_
  refine Run.ops ?_
  refine SOps.st rfl rfl (Yv.move rfl).yl ?_
  refine SOps.one rfl (One.callC (i := 0) (H' := fun _ _ => [_]) rfl callable67 (.cons rfl (.nil)) rfl (fun w' hw' => room_spec (Cur.own hs (i := 0) rfl hw') (by omega) (by omega)) (fun _ _ => rfl) (fun x1 at1 sd1 _ ha1 hb1 => ?_))
  refine SOps.st rfl rfl (Yv.assign rfl).yl ?_
  refine SOps.nil ?_
  refine Run.seq ?_
  refine Run.ops ?_
  refine SOps.st rfl rfl (Yv.move rfl).yl ?_
  refine SOps.st rfl rfl (Yv.move rfl).yl ?_
  refine SOps.st rfl rfl (Yv.move rfl).yl ?_
  refine SOps.one rfl (One.callCR (i := 0) (H' := fun _ _ => [_]) rfl callable68 (.cons rfl (.cons rfl (.nil))) rfl (fun w' hw' => bookings_spec (Cur.own hs (i := 0) rfl hw') (by omega) (by omega)) (fun _ _ => rfl) (fun x2 Aq2 cq2 at2 sd2 hx2 ha2 hb2 => ?_))
  refine SOps.st rfl rfl (Yv.assign rfl).yl ?_
  refine SOps.st rfl rfl (Yv.assign rfl).yl ?_
  refine SOps.nil ?_
  refine Run.ret ?_
  refine retQ.of (.inr rfl) rfl (.tmp rfl (.tmp rfl .nil)) (fun w' hw' => ?_)
  exact retER_of ((x1, x2)) (by first | rfl | simp) rfl (by omega) hw'.bel.below (hw'.ent _ (List.mem_of_getElem? (i := 0) rfl)) (fun b hb => (hw'.own _ (List.mem_of_getElem? (i := 0) rfl) b hb).elim id (by simp))

theorem DrawBusySlot_spec {w : World} {A : Option Addr} {c : Nat} {xs : List UInt8} (hs : Sl w 1 A xs.length c (xs.flatMap byteC)) :
    Calls Try.prog 49 #[.slice A xs.length c] w (RetER w 49 4 Booking.enc (fun (x : Int × List Booking) => x.2) (fun x v => .tuple #[.int .i64 x.1, v]) (fun x => x.2.length ≤ 20)) := by
  refine calls_of_run (vs := [_]) (L := [(0, _)]) (n := 8) (F := []) (H := []) Try.func49 rfl rfl rfl rfl (HOk.start _) ?_
  refine Run.seq ?_
  refine Run.quiet (by intro h; cases h) ?_
  refine QOps.st rfl rfl (Yv.assign rfl).yl ?_
  refine QOps.st rfl rfl (Yv.assign rfl).yl ?_
  refine QOps.nil ?_
  refine Run.seq ?_
  refine Run.ops ?_
  refine SOps.st rfl rfl (Yv.move rfl).yl ?_
  refine SOps.one rfl (One.callER rfl callable83 (.cons rfl (.nil)) (fun w' hw' => DrawAreBookings_spec ((Rd.arg hs) w' hw')) ?_)
  rintro ⟨ya1, yb1⟩ Aq1 cq1 hx1
  try dsimp only at *
  refine SOps.st rfl rfl (Yv.extract rfl rfl).yl ?_
  refine SOps.st rfl rfl (Yv.extract rfl rfl).yl ?_
  refine SOps.st rfl rfl (Yv.assign rfl).yl ?_
  refine SOps.st rfl rfl (Yv.assign rfl).yl ?_
  refine SOps.nil ?_
  refine Run.ret ?_
  refine retQ.of (.inr rfl) rfl (.tmp rfl (.tmp rfl .nil)) (fun w' hw' => ?_)
  exact retER_of ((_, yb1)) (by first | rfl | simp) rfl (by first | exact hx1 | omega) hw'.bel.below (hw'.ent _ (List.mem_of_getElem? (i := 0) rfl)) (fun b hb => (hw'.own _ (List.mem_of_getElem? (i := 0) rfl) b hb).elim id (by simp))

theorem rInts_spec {w : World} {A A2 : Option Addr} {c c2 : Nat} {l : List Int} (hs : Sl w 1 A l.length c (l.flatMap intC)) (hs2 : Sl w 1 A2 l.length c2 (l.flatMap intC)) :
    Calls Try.prog 82 #[.slice A l.length c, .slice A2 l.length c2] w (RetB w (.bool true)) := by
  have hmx := Sl.lenle hs
  refine calls_of_run (vs := [_, _]) (L := [(0, _), (1, _)]) (n := 26) (F := []) (H := []) Try.func82 rfl rfl rfl rfl (HOk.start _) ?_
  refine Run.seq ?_
  refine Run.quiet (by intro h; cases h) ?_
  refine QOps.st rfl rfl (Yv.assign rfl).yl ?_
  refine QOps.nil ?_
  refine Run.seq ?_
  refine Run.seq ?_
  refine Run.quiet (by intro h; cases h) ?_
  refine QOps.st rfl rfl (Yv.move rfl).yl ?_
  refine QOps.st rfl rfl (Yv.lenS el85s rfl).yl ?_
  refine QOps.st rfl rfl (Yv.move rfl).yl ?_
  refine QOps.st rfl rfl (Yv.lenS el85s rfl).yl ?_
  refine QOps.st rfl rfl (Yv.neI rfl rfl).yl ?_
  refine QOps.nil ?_
  refine Run.cond rfl (fun hc1 => ?_) (fun hc1 => ?_)
  · exfalso
    simp at hc1
  · try replace hc1 := of_decide_eq_false hc1
    refine Run.skip ?_
    refine Run.seq ?_
    refine Run.seq ?_
    refine Run.quiet (by intro h; cases h) ?_
    refine QOps.st rfl rfl (Yv.assign rfl).yl ?_
    refine QOps.nil ?_
    refine Run.block ?_
    refine Run.loop (S := Nat) (fun s => match s with | k => k ≤ l.length) (fun s => match s with | k => [(0, .slice A l.length c), (1, .slice A2 l.length c2), (5, .int .i64 (k : Int))]) (fun s => match s with | k => []) (fun s => match s with | k => l.length - k) 0 ?_ (SubE.cons rfl (SubE.cons rfl (SubE.cons rfl (SubE.nil _)))) (List.Sublist.refl _) ?_
    · exact Nat.zero_le _
    · rintro k hk
      show Run _ _ _ _ _ [(0, .slice A l.length c), (1, .slice A2 l.length c2), (5, .int .i64 (k : Int))] [] _
      refine Run.seq ?_
      refine Run.seq ?_
      refine Run.quiet (by intro h; cases h) ?_
      refine QOps.st rfl rfl (Yv.move rfl).yl ?_
      refine QOps.st rfl rfl (Yv.move rfl).yl ?_
      refine QOps.st rfl rfl (Yv.lenS el85s rfl).yl ?_
      refine QOps.st rfl rfl (Yv.lss rfl rfl).yl ?_
      refine QOps.nil ?_
      refine Run.cond rfl (fun hc2 => ?_) (fun hc2 => ?_)
      · try replace hc2 := of_decide_eq_true hc2
        refine Run.skip ?_
        refine Run.seq ?_
        refine Run.block ?_
        refine Run.seq ?_
        refine Run.quiet (fun _ => ⟨by kernel_rfl, by kernel_rfl⟩) ?_
        refine QOps.st rfl rfl (Yv.move rfl).yl ?_
        refine QOps.st rfl rfl (Yv.move rfl).yl ?_
        refine QOps.st rfl rfl (Yv.indexAddr k el85 rfl rfl rfl (Rd.arg hs) (by omega)).yl ?_
        refine QOps.st rfl rfl (Yv.loadE lay3 rfl intC_len (Rd.arg hs) (by first | omega | (simp; omega)) rfl).yl ?_
        refine QOps.st rfl rfl (Yv.move rfl).yl ?_
        refine QOps.st rfl rfl (Yv.move rfl).yl ?_
        refine QOps.st rfl rfl (Yv.indexAddr k el85 rfl rfl rfl (Rd.arg hs2) (by omega)).yl ?_
        refine QOps.st rfl rfl (Yv.loadE lay3 rfl intC_len (Rd.arg hs2) (by first | omega | (simp; omega)) rfl).yl ?_
        refine QOps.st rfl rfl (Yv.neI rfl rfl).yl ?_
        refine QOps.nil ?_
        refine Run.cond rfl (fun hc3 => ?_) (fun hc3 => ?_)
        · exfalso
          simp at hc3
        · try replace hc3 := of_decide_eq_false hc3
          refine Run.skip ?_
          refine Run.quiet (by intro h; cases h) ?_
          refine QOps.st rfl rfl (Yv.move rfl).yl ?_
          refine QOps.st rfl rfl (Yv.succN rfl rfl (by omega)).yl ?_
          refine QOps.st rfl rfl (Yv.assign rfl).yl ?_
          refine QOps.nil ?_
          refine ⟨k + 1, ?_, ?_, (SubE.cons rfl (SubE.cons rfl (SubE.cons rfl (SubE.nil _)))), (List.Sublist.refl _)⟩
          · show k + 1 ≤ _; omega
          · first | omega | (dsimp only; omega)
      · try replace hc2 := of_decide_eq_false hc2
        refine Run.exit ?_
        refine Run.seq ?_
        refine Run.quiet (by intro h; cases h) ?_
        refine QOps.st rfl rfl (Yv.assign rfl).yl ?_
        refine QOps.nil ?_
        refine Run.ret ?_
        refine retQ.of (.inr rfl) rfl (.tmp rfl .nil) (fun w' hw' => ?_)
        refine ⟨?_, hw'.bel.below⟩
        exact rfl

theorem rInts2_spec {w : World} {A A2 : Option Addr} {c c2 : Nat} {l l2 : List Int} (he : l2 = l) (hs : Sl w 1 A l.length c (l.flatMap intC)) (hs2 : Sl w 1 A2 l2.length c2 (l2.flatMap intC)) :
    Calls Try.prog 82 #[.slice A l.length c, .slice A2 l2.length c2] w (RetB w (.bool true)) := by
  subst he
  exact rInts_spec hs hs2
theorem rTable_spec {w : World} {A A2 : Option Addr} {c c2 : Nat} {rs rs2 : List (InR Int)} (hs : Sl w 1 A rs.length c (rs.flatMap InR.enc)) (hs2 : Sl w 1 A2 rs2.length c2 (rs2.flatMap InR.enc)) (hin : ∀ x ∈ rs, x.rd w 1 intC) (hin2 : ∀ x ∈ rs2, x.rd w 1 intC) (he : rs.map InR.l = rs2.map InR.l) :
    Calls Try.prog 48 #[.slice A rs.length c, .slice A2 rs2.length c2] w (RetB w (.bool true)) := by
  have hmx := Sl.lenle hs
  have hl : rs.length = rs2.length := by simpa using congrArg List.length he
  refine calls_of_run (vs := [_, _]) (L := [(0, _), (1, _)]) (n := 27) (F := []) (H := []) Try.func48 rfl rfl rfl rfl (HOk.start _) ?_
  refine Run.seq ?_
  refine Run.quiet (by intro h; cases h) ?_
  refine QOps.st rfl rfl (Yv.assign rfl).yl ?_
  refine QOps.nil ?_
  refine Run.seq ?_
  refine Run.seq ?_
  refine Run.quiet (by intro h; cases h) ?_
  refine QOps.st rfl rfl (Yv.move rfl).yl ?_
  refine QOps.st rfl rfl (Yv.lenS el56s rfl).yl ?_
  refine QOps.st rfl rfl (Yv.move rfl).yl ?_
  refine QOps.st rfl rfl (Yv.lenS el56s rfl).yl ?_
  refine QOps.st rfl rfl (Yv.neI rfl rfl).yl ?_
  refine QOps.nil ?_
  refine Run.cond rfl (fun hc1 => ?_) (fun hc1 => ?_)
  · exfalso
    simp [hl] at hc1
  · try replace hc1 := of_decide_eq_false hc1
    refine Run.skip ?_
    refine Run.seq ?_
    refine Run.seq ?_
    refine Run.quiet (by intro h; cases h) ?_
    refine QOps.st rfl rfl (Yv.assign rfl).yl ?_
    refine QOps.nil ?_
    refine Run.block ?_
    refine Run.loop (S := Nat) (fun s => match s with | k => k ≤ rs.length) (fun s => match s with | k => [(0, .slice A rs.length c), (1, .slice A2 rs2.length c2), (5, .int .i64 (k : Int))]) (fun s => match s with | k => []) (fun s => match s with | k => rs.length - k) 0 ?_ (SubE.cons rfl (SubE.cons rfl (SubE.cons rfl (SubE.nil _)))) (List.Sublist.refl _) ?_
    · exact Nat.zero_le _
    · rintro k hk
      show Run _ _ _ _ _ [(0, .slice A rs.length c), (1, .slice A2 rs2.length c2), (5, .int .i64 (k : Int))] [] _
      refine Run.seq ?_
      refine Run.seq ?_
      refine Run.quiet (by intro h; cases h) ?_
      refine QOps.st rfl rfl (Yv.move rfl).yl ?_
      refine QOps.st rfl rfl (Yv.move rfl).yl ?_
      refine QOps.st rfl rfl (Yv.lenS el56s rfl).yl ?_
      refine QOps.st rfl rfl (Yv.lss rfl rfl).yl ?_
      refine QOps.nil ?_
      refine Run.cond rfl (fun hc2 => ?_) (fun hc2 => ?_)
      · try replace hc2 := of_decide_eq_true hc2
        refine Run.skip ?_
        refine Run.seq ?_
        refine Run.block ?_
        refine Run.seq ?_
        refine Run.quiet (fun _ => ⟨by kernel_rfl, by kernel_rfl⟩) ?_
        refine QOps.st rfl rfl (Yv.move rfl).yl ?_
        refine QOps.st rfl rfl (Yv.move rfl).yl ?_
        refine QOps.st rfl rfl (Yv.indexAddr k el56 rfl rfl rfl (Rd.arg hs) (by omega)).yl ?_
        refine QOps.st rfl rfl (Yv.loadE (k := k) lay85 rfl InR.len (Rd.arg hs) (by first | omega | (simp; omega)) rfl).yl ?_
        refine QOps.st rfl rfl (Yv.move rfl).yl ?_
        refine QOps.st rfl rfl (Yv.move rfl).yl ?_
        refine QOps.st rfl rfl (Yv.indexAddr k el56 rfl rfl rfl (Rd.arg hs2) (by omega)).yl ?_
        refine QOps.st rfl rfl (Yv.loadE (k := k) lay85 rfl InR.len (Rd.arg hs2) (by first | omega | (simp; omega)) rfl).yl ?_
        refine QOps.st rfl rfl (Yl.call callable82 (.cons rfl (.cons rfl (.nil))) (fun w' hw' => rInts2_spec (map_nth he (show k < rs.length by omega)) ((Rd.arg (hin _ (nthMem (by omega)))) w' hw') ((Rd.arg (hin2 _ (nthMem (by omega)))) w' hw'))) ?_
        refine QOps.st rfl rfl (Yv.not rfl).yl ?_
        refine QOps.nil ?_
        refine Run.cond rfl (fun hc3 => ?_) (fun hc3 => ?_)
        · exfalso
          simp at hc3
        · try replace hc3 := of_decide_eq_false hc3
          refine Run.skip ?_
          refine Run.quiet (by intro h; cases h) ?_
          refine QOps.st rfl rfl (Yv.move rfl).yl ?_
          refine QOps.st rfl rfl (Yv.succN rfl rfl (by omega)).yl ?_
          refine QOps.st rfl rfl (Yv.assign rfl).yl ?_
          refine QOps.nil ?_
          refine ⟨k + 1, ?_, ?_, (SubE.cons rfl (SubE.cons rfl (SubE.cons rfl (SubE.nil _)))), (List.Sublist.refl _)⟩
          · show k + 1 ≤ _; omega
          · first | omega | (dsimp only; omega)
      · try replace hc2 := of_decide_eq_false hc2
        refine Run.exit ?_
        refine Run.seq ?_
        refine Run.quiet (by intro h; cases h) ?_
        refine QOps.st rfl rfl (Yv.assign rfl).yl ?_
        refine QOps.nil ?_
        refine Run.ret ?_
        refine retQ.of (.inr rfl) rfl (.tmp rfl .nil) (fun w' hw' => ?_)
        refine ⟨?_, hw'.bel.below⟩
        exact rfl

/-- The busiest slot's room. -/
structure Busied (room : Int) (bs : List Booking) : Prop where
  here : roomOf room bs (busyL room bs) (busyS room bs) = (room - busyM room bs, true)
  each : ∀ i, i < bs.length → (roomOf room bs (nth bs i).lock (nth bs i).slot).2 = true ∧ room - busyM room bs ≤ (roomOf room bs (nth bs i).lock (nth bs i).slot).1
  bnd : 1 ≤ room ∧ room ≤ 3 ∧ 0 ≤ busyM room bs ∧ busyM room bs ≤ 10
theorem busied {room : Int} {bs : List Booking} (h : busyOk room bs = true) : Busied room bs := by
  have h1 := h
  unfold busyOk at h1
  simp only [Bool.and_eq_true, Bool.not_eq_true', decide_eq_false_iff_not] at h1
  obtain ⟨hA, hl⟩ := h1
  have hb := busy_impl hA (show 0 < bs.length by omega)
  have e1 : busyL room bs = (busyTo bs bs.length).1.lock := by unfold busyL; rw [if_pos h]
  have e2 : busyS room bs = (busyTo bs bs.length).1.slot := by unfold busyS; rw [if_pos h]
  have e3 : busyM room bs = (busyTo bs bs.length).2 := by unfold busyM; rw [if_pos h]
  rw [← e1, ← e2, ← e3] at hb
  have hp := are_parts hA
  have hin := hb.inr
  have hok : ∀ {l s : Int}, inL l s → slotOk l s = true := fun {l s} h9 => by
    simp only [inL] at h9
    simp only [slotOk, Bool.and_eq_true, inB_iff]
    omega
  have hu := usedTo_range (bs := bs) (lock := busyL room bs) (slot := busyS room bs) (k := bs.length)
  have hm : busyM room bs = usedTo bs (busyL room bs) (busyS room bs) bs.length := hb.eq
  refine ⟨?_, fun i hi => ?_, by omega⟩
  · unfold roomOf
    rw [if_pos (by rw [hA, hok hin]; rfl), hm]
  · have h2 := one_in (bad_head (hp.2.2 i hi))
    have h3 : usedTo bs (nth bs i).lock (nth bs i).slot bs.length ≤ busyM room bs := hb.top _ _ h2
    unfold roomOf
    rw [if_pos (by rw [hA, hok h2]; rfl)]
    exact ⟨rfl, by dsimp only; omega⟩
theorem FnVoyageSlots_spec {w : World} {A : Option Addr} {c : Nat} {xs : List UInt8} (hs : Sl w 1 A xs.length c (xs.flatMap byteC)) (_hb : 1 * xs.length ≤ 281474976710656) : Calls Try.prog 13 #[.slice A xs.length c] w (RetB w (.bool true)) := by
  refine calls_of_run (vs := [_]) (L := [(0, _)]) (n := 280) (F := []) (H := []) Try.func13 rfl rfl rfl rfl (HOk.start _) ?_
  refine Run.seq ?_
  refine Run.quiet (by intro h; cases h) ?_
  refine QOps.st rfl rfl (Yv.assign rfl).yl ?_
  refine QOps.nil ?_
  refine Run.seq ?_
  refine Run.seq ?_
  refine Run.quiet (by intro h; cases h) ?_
  refine QOps.st rfl rfl (Yv.move rfl).yl ?_
  refine QOps.st rfl rfl (Yl.call callable33 (.cons rfl (.nil)) (fun w' hw' => rBig_spec)) ?_
  refine QOps.nil ?_
  refine Run.cond rfl (fun hc1 => ?_) (fun hc1 => ?_)
  · try replace hc1 := of_decide_eq_true hc1
    refine Run.seq ?_
    refine Run.quiet (by intro h; cases h) ?_
    refine QOps.st rfl rfl (Yv.assign rfl).yl ?_
    refine QOps.nil ?_
    refine Run.ret ?_
    refine retQ.of (.inr rfl) rfl (.tmp rfl .nil) (fun w' hw' => ?_)
    refine ⟨?_, hw'.bel.below⟩
    exact rfl
  · try replace hc1 := of_decide_eq_false hc1
    refine Run.skip ?_
    refine Run.seq ?_
    refine Run.ops ?_
    refine SOps.st rfl rfl (Yv.move rfl).yl ?_
    refine SOps.one rfl (One.callER rfl callable46 (.cons rfl (.nil)) (fun w' hw' => DrawBookVoyage_spec ((Rd.arg hs) w' hw')) ?_)
    rintro ⟨ya1, yb1, yd1, ye1, yf1, yh1⟩ Aq1 cq1 hx1
    try dsimp only at *
    refine SOps.st rfl rfl (Yv.move rfl).yl ?_
    refine SOps.st rfl rfl (Yv.extract rfl rfl).yl ?_
    refine SOps.st rfl rfl (Yv.extract rfl rfl).yl ?_
    refine SOps.st rfl rfl (Yv.extract rfl rfl).yl ?_
    refine SOps.st rfl rfl (Yv.extract rfl rfl).yl ?_
    refine SOps.st rfl rfl (Yv.extract rfl rfl).yl ?_
    refine SOps.st rfl rfl (Yv.extract rfl rfl).yl ?_
    refine SOps.st rfl rfl (Yv.assign rfl).yl ?_
    refine SOps.st rfl rfl (Yv.assign rfl).yl ?_
    refine SOps.st rfl rfl (Yv.assign rfl).yl ?_
    refine SOps.st rfl rfl (Yv.assign rfl).yl ?_
    refine SOps.st rfl rfl (Yv.assign rfl).yl ?_
    refine SOps.st rfl rfl (Yv.assign rfl).yl ?_
    refine SOps.nil ?_
    refine Run.seq ?_
    refine Run.ops ?_
    refine SOps.st rfl rfl (Yv.move rfl).yl ?_
    refine SOps.st rfl rfl (Yv.move rfl).yl ?_
    refine SOps.st rfl rfl (Yv.move rfl).yl ?_
    refine SOps.st rfl rfl (Yv.move rfl).yl ?_
    refine SOps.st rfl rfl (Yv.move rfl).yl ?_
    refine SOps.st rfl rfl (Yv.move rfl).yl ?_
    refine SOps.one rfl (One.callRow rfl callable32 (.cons rfl (.cons rfl (.cons rfl (.cons rfl (.cons rfl (.cons rfl (.nil))))))) (fun w' hw' => BookVoyage_spec ((Rd.row (i := 0) rfl) w' hw') (by omega)) (fun A1 c1 => ?_))
    refine SOps.st rfl rfl (Yv.move rfl).yl ?_
    refine SOps.st rfl rfl (Yv.extract rfl rfl).yl ?_
    refine SOps.st rfl rfl (Yv.extract rfl rfl).yl ?_
    refine SOps.st rfl rfl (Yv.assign rfl).yl ?_
    refine SOps.st rfl rfl (Yv.assign rfl).yl ?_
    refine SOps.nil ?_
    refine Run.seq ?_
    refine Run.seq ?_
    refine Run.ops ?_
    refine SOps.st rfl rfl (Yv.move rfl).yl ?_
    refine SOps.st rfl rfl (Yv.move rfl).yl ?_
    refine SOps.st rfl rfl (Yv.move rfl).yl ?_
    refine SOps.st rfl rfl (Yv.move rfl).yl ?_
    refine SOps.st rfl rfl (Yv.move rfl).yl ?_
    refine SOps.st rfl rfl (Yv.move rfl).yl ?_
    refine SOps.one rfl (One.callRow rfl callable31 (.cons rfl (.cons rfl (.cons rfl (.cons rfl (.cons rfl (.cons rfl (.nil))))))) (fun w' hw' => sBookVoyage_spec ((Rd.row (i := 1) rfl) w' hw') (by omega)) (fun A2 c2 => ?_))
    refine SOps.st rfl rfl (Yv.move rfl).yl ?_
    refine SOps.st rfl rfl (Yv.extract rfl rfl).yl ?_
    refine SOps.st rfl rfl (Yv.extract rfl rfl).yl ?_
    refine SOps.st rfl rfl (Yv.assign rfl).yl ?_
    refine SOps.st rfl rfl (Yv.assign rfl).yl ?_
    refine SOps.nil ?_
    refine Run.seq ?_
    refine Run.quiet (by intro h; cases h) ?_
    refine QOps.st rfl rfl (Yv.move rfl).yl ?_
    refine QOps.st rfl rfl (Yv.move rfl).yl ?_
    refine QOps.st rfl rfl (Yv.neB bool4 rfl rfl).yl ?_
    refine QOps.st rfl rfl (Yv.move rfl).yl ?_
    refine' QOps.or [_, _, _, _] _ (.tmp 83) rfl rfl rfl rfl rfl rfl (fun hg1 => ?_) ?_
    rotate_left
    · try replace hg1 := of_decide_eq_false hg1
      refine QOps.st rfl rfl (Yv.move rfl).yl ?_
      refine QOps.st rfl rfl (Yv.move rfl).yl ?_
      refine QOps.st rfl rfl (Yl.call callable35 (.cons rfl (.cons rfl (.nil))) (fun w' hw' => rBookings_spec ((Rd.row (i := 1) rfl) w' hw') ((Rd.row (i := 0) rfl) w' hw'))) ?_
      refine QOps.st rfl rfl (Yv.not rfl).yl ?_
      exact QOps.nil rfl
    refine QOps.nil ?_
    refine Run.cond rfl (fun hc2 => ?_) (fun hc2 => ?_)
    · exfalso
      simp at hc2
    · try replace hc2 := of_decide_eq_false hc2
      refine Run.skip ?_
      refine Run.seq ?_
      refine Run.seq ?_
      refine Run.quiet (by intro h; cases h) ?_
      refine QOps.st rfl rfl (Yv.move rfl).yl ?_
      refine QOps.nil ?_
      refine Run.cond rfl (fun hc3 => ?_) (fun hc3 => ?_)
      · try replace hc3 := of_decide_eq_true hc3
        have hV := voyed hc3
        have hVb := hV.bnd
        have hVl := voyOf_len (room := ya1) (bs := yb1) (v := yd1) (fr := ye1) (to := yf1) (slot := yh1)
        refine Run.seq ?_
        refine Run.ops ?_
        refine SOps.st rfl rfl (Yv.move rfl).yl ?_
        refine SOps.st rfl rfl (Yv.move rfl).yl ?_
        refine SOps.st rfl rfl (Yv.move rfl).yl ?_
        refine SOps.one rfl (One.callTabT (H1 := [_, _, _]) (rs0 := ([] : List (InR Int))) rfl callable42 (.cons rfl (.cons rfl (.cons rfl (.nil)))) (fun w' hw' => VoyageSlots_spec ((Rd.row (i := 2) rfl) w' hw')) ?_)
        rintro At1 ct1 rs1 hrs1
        have hrl1 : rs1.length = (voyL ya1 yb1 yd1).length := by rw [← hrs1]; simp
        have hrt1 := voyL_ten (room := ya1) (bs := yb1) (v := yd1)
        refine SOps.st rfl rfl (Yv.move rfl).yl ?_
        refine SOps.st rfl rfl (Yv.extract rfl rfl).yl ?_
        refine SOps.st rfl rfl (Yv.extract rfl rfl).yl ?_
        refine SOps.st rfl rfl (Yv.assign rfl).yl ?_
        refine SOps.st rfl rfl (Yv.assign rfl).yl ?_
        refine SOps.nil ?_
        refine Run.seq ?_
        refine Run.ops ?_
        refine SOps.st rfl rfl (Yv.move rfl).yl ?_
        refine SOps.st rfl rfl (Yv.move rfl).yl ?_
        refine SOps.st rfl rfl (Yv.move rfl).yl ?_
        refine SOps.one rfl (One.callTabT (H1 := [_, _, _, _]) (rs0 := (([] : List (InR Int)) ++ rs1)) rfl callable42 (.cons rfl (.cons rfl (.cons rfl (.nil)))) (fun w' hw' => VoyageSlots_spec ((Rd.row (i := 2) rfl) w' hw')) ?_)
        rintro At2 ct2 rs2 hrs2
        have hrl2 : rs2.length = (voyL ya1 (voyOf ya1 yb1 yd1 ye1 yf1 yh1).1 yd1).length := by rw [← hrs2]; simp
        have hrt2 := voyL_ten (room := ya1) (bs := (voyOf ya1 yb1 yd1 ye1 yf1 yh1).1) (v := yd1)
        refine SOps.st rfl rfl (Yv.move rfl).yl ?_
        refine SOps.st rfl rfl (Yv.extract rfl rfl).yl ?_
        refine SOps.st rfl rfl (Yv.extract rfl rfl).yl ?_
        refine SOps.st rfl rfl (Yv.assign rfl).yl ?_
        refine SOps.st rfl rfl (Yv.assign rfl).yl ?_
        refine SOps.nil ?_
        refine Run.seq ?_
        refine Run.quiet (by intro h; cases h) ?_
        refine QOps.st rfl rfl (Yv.move rfl).yl ?_
        refine QOps.st rfl rfl (Yv.move rfl).yl ?_
        refine QOps.st rfl rfl (Yv.move rfl).yl ?_
        refine QOps.st rfl rfl (Yl.call callable40 (.cons rfl (.cons rfl (.cons rfl (.nil)))) (fun w' hw' => IsUpward_spec ((Rd.row (i := 3) rfl) w' hw') (by omega))) ?_
        refine QOps.st rfl rfl (Yv.move rfl).yl ?_
        refine QOps.st rfl rfl (Yv.extract rfl rfl).yl ?_
        refine QOps.st rfl rfl (Yv.extract rfl rfl).yl ?_
        refine QOps.st rfl rfl (Yv.assign rfl).yl ?_
        refine QOps.st rfl rfl (Yv.assign rfl).yl ?_
        refine QOps.nil ?_
        refine Run.seq ?_
        refine Run.quiet (by intro h; cases h) ?_
        refine QOps.st rfl rfl (Yv.move rfl).yl ?_
        refine QOps.st rfl rfl (Yv.not rfl).yl ?_
        refine QOps.st rfl rfl (Yv.move rfl).yl ?_
        refine' QOps.or [_, _] _ (.tmp 111) rfl rfl rfl rfl rfl rfl (fun hg2 => ?_) ?_
        rotate_left
        · try replace hg2 := of_decide_eq_false hg2
          refine QOps.st rfl rfl (Yv.move rfl).yl ?_
          refine QOps.st rfl rfl (Yv.not rfl).yl ?_
          exact QOps.nil rfl
        refine QOps.st rfl rfl (Yv.move rfl).yl ?_
        refine' QOps.or [_, _] _ (.tmp 115) rfl rfl rfl rfl rfl rfl (fun hg3 => ?_) ?_
        rotate_left
        · try replace hg3 := of_decide_eq_false hg3
          refine QOps.st rfl rfl (Yv.move rfl).yl ?_
          refine QOps.st rfl rfl (Yv.not rfl).yl ?_
          exact QOps.nil rfl
        refine QOps.st rfl rfl (Yv.move rfl).yl ?_
        refine' QOps.or [_, _, _, _, _, _, _, _, _, _] _ (.tmp 127) rfl rfl rfl rfl rfl rfl (fun hg4 => ?_) ?_
        rotate_left
        · try replace hg4 := of_decide_eq_false hg4
          refine QOps.st rfl rfl (Yv.move rfl).yl ?_
          refine QOps.st rfl rfl (Yv.lenS el56s rfl).yl ?_
          refine QOps.st rfl rfl (Yv.move rfl).yl ?_
          refine QOps.st rfl rfl (Yv.lenS el56s rfl).yl ?_
          refine QOps.st rfl rfl (Yv.move rfl).yl ?_
          refine QOps.st rfl rfl (Yv.add rfl rfl (by omega)).yl ?_
          refine QOps.st rfl rfl (Yv.move rfl).yl ?_
          refine QOps.st rfl rfl (Yv.sub rfl rfl (by omega)).yl ?_
          refine QOps.st rfl rfl (Yv.add rfl rfl (by omega)).yl ?_
          refine QOps.st rfl rfl (Yv.neI rfl rfl).yl ?_
          exact QOps.nil rfl
        refine QOps.st rfl rfl (Yv.move rfl).yl ?_
        refine' QOps.or [_, _, _, _, _, _, _] _ (.tmp 136) rfl rfl rfl rfl rfl rfl (fun hg5 => ?_) ?_
        rotate_left
        · try replace hg5 := of_decide_eq_false hg5
          refine QOps.st rfl rfl (Yv.move rfl).yl ?_
          refine QOps.st rfl rfl (Yv.lenS el56s rfl).yl ?_
          refine QOps.st rfl rfl (Yv.eqI rfl rfl).yl ?_
          refine QOps.st rfl rfl (Yv.move rfl).yl ?_
          refine' QOps.and [_, _] _ (.tmp 135) rfl rfl rfl rfl rfl rfl (fun hg6 => ?_) ?_
          rotate_left
          · try replace hg6 := of_decide_eq_true hg6
            refine QOps.st rfl rfl (Yv.move rfl).yl ?_
            refine QOps.st rfl rfl (Yv.not rfl).yl ?_
            exact QOps.nil rfl
          exact QOps.nil rfl
        refine QOps.nil ?_
        refine Run.cond rfl (fun hc4 => ?_) (fun hc4 => ?_)
        · exfalso
          simp [hV.one, hV.two] at hc4
          rcases hc4 with h | ⟨h, h2⟩
          · have := hV.len; omega
          · have h9 : rs1.length = 0 := by simp [h]
            rw [hV.up (by omega)] at h2; cases h2
        · try replace hc4 := of_decide_eq_false hc4
          refine Run.skip ?_
          refine Run.seq ?_
          refine Run.ops ?_
          refine SOps.st rfl rfl (Yv.move rfl).yl ?_
          refine SOps.one rfl (One.callER rfl callable47 (.cons rfl (.nil)) (fun w' hw' => DrawIsUpward_spec ((Rd.arg hs) w' hw')) ?_)
          rintro ⟨ya2, yb2, yd2⟩ Aq2 cq2 hx2
          try dsimp only at *
          refine SOps.st rfl rfl (Yv.move rfl).yl ?_
          refine SOps.st rfl rfl (Yv.extract rfl rfl).yl ?_
          refine SOps.st rfl rfl (Yv.extract rfl rfl).yl ?_
          refine SOps.st rfl rfl (Yv.extract rfl rfl).yl ?_
          refine SOps.st rfl rfl (Yv.assign rfl).yl ?_
          refine SOps.st rfl rfl (Yv.assign rfl).yl ?_
          refine SOps.st rfl rfl (Yv.assign rfl).yl ?_
          refine SOps.nil ?_
          refine Run.seq ?_
          refine Run.quiet (by intro h; cases h) ?_
          refine QOps.st rfl rfl (Yv.move rfl).yl ?_
          refine QOps.st rfl rfl (Yv.move rfl).yl ?_
          refine QOps.st rfl rfl (Yv.move rfl).yl ?_
          refine QOps.st rfl rfl (Yl.call callable40 (.cons rfl (.cons rfl (.cons rfl (.nil)))) (fun w' hw' => IsUpward_spec ((Rd.row (i := 0) rfl) w' hw') (by omega))) ?_
          refine QOps.st rfl rfl (Yv.move rfl).yl ?_
          refine QOps.st rfl rfl (Yv.extract rfl rfl).yl ?_
          refine QOps.st rfl rfl (Yv.extract rfl rfl).yl ?_
          refine QOps.st rfl rfl (Yv.assign rfl).yl ?_
          refine QOps.st rfl rfl (Yv.assign rfl).yl ?_
          refine QOps.nil ?_
          refine Run.seq ?_
          refine Run.seq ?_
          refine Run.quiet (by intro h; cases h) ?_
          refine QOps.st rfl rfl (Yv.move rfl).yl ?_
          refine QOps.st rfl rfl (Yv.move rfl).yl ?_
          refine QOps.st rfl rfl (Yv.move rfl).yl ?_
          refine QOps.st rfl rfl (Yl.call callable39 (.cons rfl (.cons rfl (.cons rfl (.nil)))) (fun w' hw' => sIsUpward_spec ((Rd.row (i := 0) rfl) w' hw') (by omega))) ?_
          refine QOps.st rfl rfl (Yv.move rfl).yl ?_
          refine QOps.st rfl rfl (Yv.extract rfl rfl).yl ?_
          refine QOps.st rfl rfl (Yv.extract rfl rfl).yl ?_
          refine QOps.st rfl rfl (Yv.assign rfl).yl ?_
          refine QOps.st rfl rfl (Yv.assign rfl).yl ?_
          refine QOps.nil ?_
          refine Run.seq ?_
          refine Run.quiet (by intro h; cases h) ?_
          refine QOps.st rfl rfl (Yv.move rfl).yl ?_
          refine QOps.st rfl rfl (Yv.move rfl).yl ?_
          refine QOps.st rfl rfl (Yv.neB bool4 rfl rfl).yl ?_
          refine QOps.st rfl rfl (Yv.move rfl).yl ?_
          refine' QOps.or [_, _, _] _ (.tmp 164) rfl rfl rfl rfl rfl rfl (fun hg7 => ?_) ?_
          rotate_left
          · try replace hg7 := of_decide_eq_false hg7
            refine QOps.st rfl rfl (Yv.move rfl).yl ?_
            refine QOps.st rfl rfl (Yv.move rfl).yl ?_
            refine QOps.st rfl rfl (Yv.neB bool4 rfl rfl).yl ?_
            exact QOps.nil rfl
          refine QOps.nil ?_
          refine Run.cond rfl (fun hc5 => ?_) (fun hc5 => ?_)
          · exfalso
            first | (simp at hc5; done) | (simp at hc5; omega)
          · try replace hc5 := of_decide_eq_false hc5
            refine Run.skip ?_
            refine Run.seq ?_
            refine Run.ops ?_
            refine SOps.st rfl rfl (Yv.move rfl).yl ?_
            refine SOps.st rfl rfl (Yv.move rfl).yl ?_
            refine SOps.st rfl rfl (Yv.move rfl).yl ?_
            refine SOps.one rfl (One.callTabT (H1 := [_, _, _, _, _, _]) (rs0 := ((([] : List (InR Int)) ++ rs1) ++ rs2)) rfl callable42 (.cons rfl (.cons rfl (.cons rfl (.nil)))) (fun w' hw' => VoyageSlots_spec ((Rd.row (i := 0) rfl) w' hw')) ?_)
            rintro At3 ct3 rs3 hrs3
            have hrl3 : rs3.length = (voyL ya2 yb2 yd2).length := by rw [← hrs3]; simp
            have hrt3 := voyL_ten (room := ya2) (bs := yb2) (v := yd2)
            refine SOps.st rfl rfl (Yv.move rfl).yl ?_
            refine SOps.st rfl rfl (Yv.extract rfl rfl).yl ?_
            refine SOps.st rfl rfl (Yv.extract rfl rfl).yl ?_
            refine SOps.st rfl rfl (Yv.assign rfl).yl ?_
            refine SOps.st rfl rfl (Yv.assign rfl).yl ?_
            refine SOps.nil ?_
            refine Run.seq ?_
            refine Run.seq ?_
            refine Run.ops ?_
            refine SOps.st rfl rfl (Yv.move rfl).yl ?_
            refine SOps.st rfl rfl (Yv.move rfl).yl ?_
            refine SOps.st rfl rfl (Yv.move rfl).yl ?_
            refine SOps.one rfl (One.callTabT (H1 := [_, _, _, _, _, _, _]) (rs0 := (((([] : List (InR Int)) ++ rs1) ++ rs2) ++ rs3)) rfl callable41 (.cons rfl (.cons rfl (.cons rfl (.nil)))) (fun w' hw' => sVoyageSlots_spec ((Rd.row (i := 1) rfl) w' hw') (by omega)) ?_)
            rintro At4 ct4 rs4 hrs4
            have hrl4 : rs4.length = (voyL ya2 yb2 yd2).length := by rw [← hrs4]; simp
            have hrt4 := voyL_ten (room := ya2) (bs := yb2) (v := yd2)
            refine SOps.st rfl rfl (Yv.move rfl).yl ?_
            refine SOps.st rfl rfl (Yv.extract rfl rfl).yl ?_
            refine SOps.st rfl rfl (Yv.extract rfl rfl).yl ?_
            refine SOps.st rfl rfl (Yv.assign rfl).yl ?_
            refine SOps.st rfl rfl (Yv.assign rfl).yl ?_
            refine SOps.nil ?_
            refine Run.seq ?_
            refine Run.quiet (by intro h; cases h) ?_
            refine QOps.st rfl rfl (Yv.move rfl).yl ?_
            refine QOps.st rfl rfl (Yv.move rfl).yl ?_
            refine QOps.st rfl rfl (Yv.neB bool4 rfl rfl).yl ?_
            refine QOps.st rfl rfl (Yv.move rfl).yl ?_
            refine' QOps.or [_, _, _] _ (.tmp 186) rfl rfl rfl rfl rfl rfl (fun hg8 => ?_) ?_
            rotate_left
            · try replace hg8 := of_decide_eq_false hg8
              refine QOps.st rfl rfl (Yv.move rfl).yl ?_
              refine QOps.st rfl rfl (Yv.move rfl).yl ?_
              refine QOps.st rfl rfl (Yv.neB bool4 rfl rfl).yl ?_
              exact QOps.nil rfl
            refine QOps.st rfl rfl (Yv.move rfl).yl ?_
            refine' QOps.or [_, _, _, _] _ (.tmp 192) rfl rfl rfl rfl rfl rfl (fun hg9 => ?_) ?_
            rotate_left
            · try replace hg9 := of_decide_eq_false hg9
              refine QOps.st rfl rfl (Yv.move rfl).yl ?_
              refine QOps.st rfl rfl (Yv.move rfl).yl ?_
              refine QOps.st rfl rfl (Yl.call callable48 (.cons rfl (.cons rfl (.nil))) (fun w' hw' => rTable_spec ((Rd.row (i := 1) rfl) w' hw') ((Rd.row (i := 0) rfl) w' hw') (rdin_tail (H1 := [_, _, _, _, _, _, _, _]) hw' (fun x hx => by simp [hx])) (rdin_tail (H1 := [_, _, _, _, _, _, _, _]) hw' (fun x hx => by simp [hx])) (by rw [hrs3, hrs4]))) ?_
              refine QOps.st rfl rfl (Yv.not rfl).yl ?_
              exact QOps.nil rfl
            refine QOps.nil ?_
            refine Run.cond rfl (fun hc6 => ?_) (fun hc6 => ?_)
            · exfalso
              first | (simp at hc6; done) | (simp at hc6; omega)
            · try replace hc6 := of_decide_eq_false hc6
              refine Run.skip ?_
              refine Run.seq ?_
              refine Run.ops ?_
              refine SOps.st rfl rfl (Yv.move rfl).yl ?_
              refine SOps.one rfl (One.callER rfl callable49 (.cons rfl (.nil)) (fun w' hw' => DrawBusySlot_spec ((Rd.arg hs) w' hw')) ?_)
              rintro ⟨ya3, yb3⟩ Aq3 cq3 hx3
              try dsimp only at *
              refine SOps.st rfl rfl (Yv.move rfl).yl ?_
              refine SOps.st rfl rfl (Yv.extract rfl rfl).yl ?_
              refine SOps.st rfl rfl (Yv.extract rfl rfl).yl ?_
              refine SOps.st rfl rfl (Yv.assign rfl).yl ?_
              refine SOps.st rfl rfl (Yv.assign rfl).yl ?_
              refine SOps.nil ?_
              refine Run.seq ?_
              refine Run.quiet (by intro h; cases h) ?_
              refine QOps.st rfl rfl (Yv.move rfl).yl ?_
              refine QOps.st rfl rfl (Yv.move rfl).yl ?_
              refine QOps.st rfl rfl (Yl.call callable22 (.cons rfl (.cons rfl (.nil))) (fun w' hw' => BusySlot_spec ((Rd.row (i := 0) rfl) w' hw'))) ?_
              refine QOps.st rfl rfl (Yv.move rfl).yl ?_
              refine QOps.st rfl rfl (Yv.extract rfl rfl).yl ?_
              refine QOps.st rfl rfl (Yv.extract rfl rfl).yl ?_
              refine QOps.st rfl rfl (Yv.extract rfl rfl).yl ?_
              refine QOps.st rfl rfl (Yv.extract rfl rfl).yl ?_
              refine QOps.st rfl rfl (Yv.assign rfl).yl ?_
              refine QOps.st rfl rfl (Yv.assign rfl).yl ?_
              refine QOps.st rfl rfl (Yv.assign rfl).yl ?_
              refine QOps.st rfl rfl (Yv.assign rfl).yl ?_
              refine QOps.nil ?_
              refine Run.seq ?_
              refine Run.seq ?_
              refine Run.quiet (by intro h; cases h) ?_
              refine QOps.st rfl rfl (Yv.move rfl).yl ?_
              refine QOps.st rfl rfl (Yv.move rfl).yl ?_
              refine QOps.st rfl rfl (Yl.call callable21 (.cons rfl (.cons rfl (.nil))) (fun w' hw' => sBusySlot_spec ((Rd.row (i := 0) rfl) w' hw'))) ?_
              refine QOps.st rfl rfl (Yv.move rfl).yl ?_
              refine QOps.st rfl rfl (Yv.extract rfl rfl).yl ?_
              refine QOps.st rfl rfl (Yv.extract rfl rfl).yl ?_
              refine QOps.st rfl rfl (Yv.extract rfl rfl).yl ?_
              refine QOps.st rfl rfl (Yv.extract rfl rfl).yl ?_
              refine QOps.st rfl rfl (Yv.assign rfl).yl ?_
              refine QOps.st rfl rfl (Yv.assign rfl).yl ?_
              refine QOps.st rfl rfl (Yv.assign rfl).yl ?_
              refine QOps.st rfl rfl (Yv.assign rfl).yl ?_
              refine QOps.nil ?_
              refine Run.seq ?_
              refine Run.quiet (by intro h; cases h) ?_
              refine QOps.st rfl rfl (Yv.move rfl).yl ?_
              refine QOps.st rfl rfl (Yv.move rfl).yl ?_
              refine QOps.st rfl rfl (Yv.neI rfl rfl).yl ?_
              refine QOps.st rfl rfl (Yv.move rfl).yl ?_
              refine' QOps.or [_, _, _] _ (.tmp 221) rfl rfl rfl rfl rfl rfl (fun hg10 => ?_) ?_
              rotate_left
              · try replace hg10 := of_decide_eq_false hg10
                refine QOps.st rfl rfl (Yv.move rfl).yl ?_
                refine QOps.st rfl rfl (Yv.move rfl).yl ?_
                refine QOps.st rfl rfl (Yv.neI rfl rfl).yl ?_
                exact QOps.nil rfl
              refine QOps.st rfl rfl (Yv.move rfl).yl ?_
              refine' QOps.or [_, _, _] _ (.tmp 226) rfl rfl rfl rfl rfl rfl (fun hg11 => ?_) ?_
              rotate_left
              · try replace hg11 := of_decide_eq_false hg11
                refine QOps.st rfl rfl (Yv.move rfl).yl ?_
                refine QOps.st rfl rfl (Yv.move rfl).yl ?_
                refine QOps.st rfl rfl (Yv.neI rfl rfl).yl ?_
                exact QOps.nil rfl
              refine QOps.st rfl rfl (Yv.move rfl).yl ?_
              refine' QOps.or [_, _, _] _ (.tmp 231) rfl rfl rfl rfl rfl rfl (fun hg12 => ?_) ?_
              rotate_left
              · try replace hg12 := of_decide_eq_false hg12
                refine QOps.st rfl rfl (Yv.move rfl).yl ?_
                refine QOps.st rfl rfl (Yv.move rfl).yl ?_
                refine QOps.st rfl rfl (Yv.neB bool4 rfl rfl).yl ?_
                exact QOps.nil rfl
              refine QOps.nil ?_
              refine Run.cond rfl (fun hc7 => ?_) (fun hc7 => ?_)
              · exfalso
                first | (simp at hc7; done) | (simp at hc7; omega)
              · try replace hc7 := of_decide_eq_false hc7
                refine Run.skip ?_
                refine Run.seq ?_
                refine Run.seq ?_
                refine Run.quiet (by intro h; cases h) ?_
                refine QOps.st rfl rfl (Yv.move rfl).yl ?_
                refine QOps.nil ?_
                refine Run.cond rfl (fun hc8 => ?_) (fun hc8 => ?_)
                · try replace hc8 := of_decide_eq_true hc8
                  have hBz := busied hc8
                  have hBb := hBz.bnd
                  have hBh := congrArg Prod.fst hBz.here
                  dsimp only at hBh
                  refine Run.seq ?_
                  refine Run.quiet (by intro h; cases h) ?_
                  refine QOps.st rfl rfl (Yv.move rfl).yl ?_
                  refine QOps.st rfl rfl (Yv.move rfl).yl ?_
                  refine QOps.st rfl rfl (Yv.move rfl).yl ?_
                  refine QOps.st rfl rfl (Yv.move rfl).yl ?_
                  refine QOps.st rfl rfl (Yl.call callable20 (.cons rfl (.cons rfl (.cons rfl (.cons rfl (.nil))))) (fun w' hw' => SlotRoom_spec ((Rd.row (i := 0) rfl) w' hw'))) ?_
                  refine QOps.st rfl rfl (Yv.move rfl).yl ?_
                  refine QOps.st rfl rfl (Yv.extract rfl rfl).yl ?_
                  refine QOps.st rfl rfl (Yv.extract rfl rfl).yl ?_
                  refine QOps.st rfl rfl (Yv.assign rfl).yl ?_
                  refine QOps.st rfl rfl (Yv.assign rfl).yl ?_
                  refine QOps.nil ?_
                  refine Run.seq ?_
                  refine Run.seq ?_
                  refine Run.quiet (by intro h; cases h) ?_
                  refine QOps.st rfl rfl (Yv.move rfl).yl ?_
                  refine QOps.st rfl rfl (Yv.not rfl).yl ?_
                  refine QOps.st rfl rfl (Yv.move rfl).yl ?_
                  refine' QOps.or [_, _, _, _, _] _ (.tmp 249) rfl rfl rfl rfl rfl rfl (fun hg13 => ?_) ?_
                  rotate_left
                  · try replace hg13 := of_decide_eq_false hg13
                    refine QOps.st rfl rfl (Yv.move rfl).yl ?_
                    refine QOps.st rfl rfl (Yv.move rfl).yl ?_
                    refine QOps.st rfl rfl (Yv.move rfl).yl ?_
                    refine QOps.st rfl rfl (Yv.sub rfl rfl (by omega)).yl ?_
                    refine QOps.st rfl rfl (Yv.neI rfl rfl).yl ?_
                    exact QOps.nil rfl
                  refine QOps.nil ?_
                  refine Run.cond rfl (fun hc9 => ?_) (fun hc9 => ?_)
                  · exfalso
                    rw [hBz.here] at hc9
                    simp at hc9
                  · try replace hc9 := of_decide_eq_false hc9
                    refine Run.skip ?_
                    refine Run.seq ?_
                    refine Run.quiet (by intro h; cases h) ?_
                    refine QOps.st rfl rfl (Yv.assign rfl).yl ?_
                    refine QOps.nil ?_
                    refine Run.block ?_
                    refine Run.loop (S := Nat) (fun s => match s with | i => i ≤ yb3.length) (fun s => match s with | i => [(30, .int .i64 ya3), (31, .slice Aq3 yb3.length cq3), (40, .int .i64 (roomOf ya3 yb3 ((busyL ya3 yb3)) ((busyS ya3 yb3))).1), (42, .int .i64 (i : Int))]) (fun s => match s with | i => [.row Aq3 cq3 49 4 yb3.length (yb3.flatMap Booking.enc)]) (fun s => match s with | i => yb3.length - i) 0 ?_ (SubE.cons rfl (SubE.cons rfl (SubE.cons rfl (SubE.cons rfl (SubE.nil _))))) (List.Sublist.cons_cons _ (List.nil_sublist _)) ?_
                    · exact Nat.zero_le _
                    · rintro i hi
                      show Run _ _ _ _ _ [(30, .int .i64 ya3), (31, .slice Aq3 yb3.length cq3), (40, .int .i64 (roomOf ya3 yb3 ((busyL ya3 yb3)) ((busyS ya3 yb3))).1), (42, .int .i64 (i : Int))] [.row Aq3 cq3 49 4 yb3.length (yb3.flatMap Booking.enc)] _
                      refine Run.seq ?_
                      refine Run.seq ?_
                      refine Run.quiet (by intro h; cases h) ?_
                      refine QOps.st rfl rfl (Yv.move rfl).yl ?_
                      refine QOps.st rfl rfl (Yv.move rfl).yl ?_
                      refine QOps.st rfl rfl (Yv.lenS el25s rfl).yl ?_
                      refine QOps.st rfl rfl (Yv.lss rfl rfl).yl ?_
                      refine QOps.nil ?_
                      refine Run.cond rfl (fun hc10 => ?_) (fun hc10 => ?_)
                      · try replace hc10 := of_decide_eq_true hc10
                        refine Run.skip ?_
                        refine Run.seq ?_
                        refine Run.block ?_
                        refine Run.seq ?_
                        refine Run.quiet (fun _ => ⟨by kernel_rfl, by kernel_rfl⟩) ?_
                        refine QOps.st rfl rfl (Yv.move rfl).yl ?_
                        refine QOps.st rfl rfl (Yv.move rfl).yl ?_
                        refine QOps.st rfl rfl (Yv.move rfl).yl ?_
                        refine QOps.st rfl rfl (Yv.move rfl).yl ?_
                        refine QOps.st rfl rfl (Yv.indexAddr i el25 rfl rfl rfl (Rd.row (i := 0) rfl) (by omega)).yl ?_
                        refine QOps.st rfl rfl (Yv.fieldAddr fld49_2 rfl).yl ?_
                        refine QOps.st rfl rfl (Yv.loadF lay3 rfl Booking.len (Rd.row (i := 0) rfl) (by first | omega | (simp; omega)) (by decide) rfl).yl ?_
                        refine QOps.st rfl rfl (Yv.move rfl).yl ?_
                        refine QOps.st rfl rfl (Yv.move rfl).yl ?_
                        refine QOps.st rfl rfl (Yv.indexAddr i el25 rfl rfl rfl (Rd.row (i := 0) rfl) (by omega)).yl ?_
                        refine QOps.st rfl rfl (Yv.fieldAddr fld49_3 rfl).yl ?_
                        refine QOps.st rfl rfl (Yv.loadF lay3 rfl Booking.len (Rd.row (i := 0) rfl) (by first | omega | (simp; omega)) (by decide) rfl).yl ?_
                        refine QOps.st rfl rfl (Yl.call callable20 (.cons rfl (.cons rfl (.cons rfl (.cons rfl (.nil))))) (fun w' hw' => SlotRoom_spec ((Rd.row (i := 0) rfl) w' hw'))) ?_
                        refine QOps.st rfl rfl (Yv.move rfl).yl ?_
                        refine QOps.st rfl rfl (Yv.extract rfl rfl).yl ?_
                        refine QOps.st rfl rfl (Yv.extract rfl rfl).yl ?_
                        refine QOps.st rfl rfl (Yv.assign rfl).yl ?_
                        refine QOps.st rfl rfl (Yv.assign rfl).yl ?_
                        refine QOps.nil ?_
                        refine Run.seq ?_
                        refine Run.quiet (by intro h; cases h) ?_
                        refine QOps.st rfl rfl (Yv.move rfl).yl ?_
                        refine QOps.st rfl rfl (Yv.not rfl).yl ?_
                        refine QOps.st rfl rfl (Yv.move rfl).yl ?_
                        refine' QOps.or [_, _, _] _ (.tmp 278) rfl rfl rfl rfl rfl rfl (fun hg14 => ?_) ?_
                        rotate_left
                        · try replace hg14 := of_decide_eq_false hg14
                          refine QOps.st rfl rfl (Yv.move rfl).yl ?_
                          refine QOps.st rfl rfl (Yv.move rfl).yl ?_
                          refine QOps.st rfl rfl (Yv.lss rfl rfl).yl ?_
                          exact QOps.nil rfl
                        refine QOps.nil ?_
                        refine Run.cond rfl (fun hc11 => ?_) (fun hc11 => ?_)
                        · exfalso
                          rw [hBz.here] at hc11
                          have hE := hBz.each i (by omega)
                          rw [hE.1] at hc11
                          simp at hc11
                          omega
                        · try replace hc11 := of_decide_eq_false hc11
                          refine Run.skip ?_
                          refine Run.quiet (by intro h; cases h) ?_
                          refine QOps.st rfl rfl (Yv.move rfl).yl ?_
                          refine QOps.st rfl rfl (Yv.succN rfl rfl (by omega)).yl ?_
                          refine QOps.st rfl rfl (Yv.assign rfl).yl ?_
                          refine QOps.nil ?_
                          refine ⟨i + 1, ?_, ?_, (SubE.cons rfl (SubE.cons rfl (SubE.cons rfl (SubE.cons rfl (SubE.nil _))))), (List.Sublist.refl _)⟩
                          · show i + 1 ≤ _; omega
                          · first | omega | (dsimp only; omega)
                      · try replace hc10 := of_decide_eq_false hc10
                        refine Run.exit ?_
                        refine Run.seq ?_
                        refine Run.quiet (by intro h; cases h) ?_
                        refine QOps.st rfl rfl (Yv.assign rfl).yl ?_
                        refine QOps.nil ?_
                        refine Run.ret ?_
                        refine retQ.of (.inr rfl) rfl (.tmp rfl .nil) (fun w' hw' => ?_)
                        refine ⟨?_, hw'.bel.below⟩
                        refine retB_eq ?_
                        simp
                · try replace hc8 := of_decide_eq_false hc8
                  refine Run.skip ?_
                  refine Run.seq ?_
                  refine Run.quiet (by intro h; cases h) ?_
                  refine QOps.st rfl rfl (Yv.assign rfl).yl ?_
                  refine QOps.nil ?_
                  refine Run.ret ?_
                  refine retQ.of (.inr rfl) rfl (.tmp rfl .nil) (fun w' hw' => ?_)
                  refine ⟨?_, hw'.bel.below⟩
                  refine retB_eq ?_
                  simp
      · try replace hc3 := of_decide_eq_false hc3
        refine Run.skip ?_
        refine Run.seq ?_
        refine Run.ops ?_
        refine SOps.st rfl rfl (Yv.move rfl).yl ?_
        refine SOps.one rfl (One.callER rfl callable47 (.cons rfl (.nil)) (fun w' hw' => DrawIsUpward_spec ((Rd.arg hs) w' hw')) ?_)
        rintro ⟨ya4, yb4, yd4⟩ Aq4 cq4 hx4
        try dsimp only at *
        refine SOps.st rfl rfl (Yv.move rfl).yl ?_
        refine SOps.st rfl rfl (Yv.extract rfl rfl).yl ?_
        refine SOps.st rfl rfl (Yv.extract rfl rfl).yl ?_
        refine SOps.st rfl rfl (Yv.extract rfl rfl).yl ?_
        refine SOps.st rfl rfl (Yv.assign rfl).yl ?_
        refine SOps.st rfl rfl (Yv.assign rfl).yl ?_
        refine SOps.st rfl rfl (Yv.assign rfl).yl ?_
        refine SOps.nil ?_
        refine Run.seq ?_
        refine Run.quiet (by intro h; cases h) ?_
        refine QOps.st rfl rfl (Yv.move rfl).yl ?_
        refine QOps.st rfl rfl (Yv.move rfl).yl ?_
        refine QOps.st rfl rfl (Yv.move rfl).yl ?_
        refine QOps.st rfl rfl (Yl.call callable40 (.cons rfl (.cons rfl (.cons rfl (.nil)))) (fun w' hw' => IsUpward_spec ((Rd.row (i := 0) rfl) w' hw') (by omega))) ?_
        refine QOps.st rfl rfl (Yv.move rfl).yl ?_
        refine QOps.st rfl rfl (Yv.extract rfl rfl).yl ?_
        refine QOps.st rfl rfl (Yv.extract rfl rfl).yl ?_
        refine QOps.st rfl rfl (Yv.assign rfl).yl ?_
        refine QOps.st rfl rfl (Yv.assign rfl).yl ?_
        refine QOps.nil ?_
        refine Run.seq ?_
        refine Run.seq ?_
        refine Run.quiet (by intro h; cases h) ?_
        refine QOps.st rfl rfl (Yv.move rfl).yl ?_
        refine QOps.st rfl rfl (Yv.move rfl).yl ?_
        refine QOps.st rfl rfl (Yv.move rfl).yl ?_
        refine QOps.st rfl rfl (Yl.call callable39 (.cons rfl (.cons rfl (.cons rfl (.nil)))) (fun w' hw' => sIsUpward_spec ((Rd.row (i := 0) rfl) w' hw') (by omega))) ?_
        refine QOps.st rfl rfl (Yv.move rfl).yl ?_
        refine QOps.st rfl rfl (Yv.extract rfl rfl).yl ?_
        refine QOps.st rfl rfl (Yv.extract rfl rfl).yl ?_
        refine QOps.st rfl rfl (Yv.assign rfl).yl ?_
        refine QOps.st rfl rfl (Yv.assign rfl).yl ?_
        refine QOps.nil ?_
        refine Run.seq ?_
        refine Run.quiet (by intro h; cases h) ?_
        refine QOps.st rfl rfl (Yv.move rfl).yl ?_
        refine QOps.st rfl rfl (Yv.move rfl).yl ?_
        refine QOps.st rfl rfl (Yv.neB bool4 rfl rfl).yl ?_
        refine QOps.st rfl rfl (Yv.move rfl).yl ?_
        refine' QOps.or [_, _, _] _ (.tmp 164) rfl rfl rfl rfl rfl rfl (fun hg15 => ?_) ?_
        rotate_left
        · try replace hg15 := of_decide_eq_false hg15
          refine QOps.st rfl rfl (Yv.move rfl).yl ?_
          refine QOps.st rfl rfl (Yv.move rfl).yl ?_
          refine QOps.st rfl rfl (Yv.neB bool4 rfl rfl).yl ?_
          exact QOps.nil rfl
        refine QOps.nil ?_
        refine Run.cond rfl (fun hc12 => ?_) (fun hc12 => ?_)
        · exfalso
          first | (simp at hc12; done) | (simp at hc12; omega)
        · try replace hc12 := of_decide_eq_false hc12
          refine Run.skip ?_
          refine Run.seq ?_
          refine Run.ops ?_
          refine SOps.st rfl rfl (Yv.move rfl).yl ?_
          refine SOps.st rfl rfl (Yv.move rfl).yl ?_
          refine SOps.st rfl rfl (Yv.move rfl).yl ?_
          refine SOps.one rfl (One.callTabT (H1 := [_, _, _, _]) (rs0 := ([] : List (InR Int))) rfl callable42 (.cons rfl (.cons rfl (.cons rfl (.nil)))) (fun w' hw' => VoyageSlots_spec ((Rd.row (i := 0) rfl) w' hw')) ?_)
          rintro At5 ct5 rs5 hrs5
          have hrl5 : rs5.length = (voyL ya4 yb4 yd4).length := by rw [← hrs5]; simp
          have hrt5 := voyL_ten (room := ya4) (bs := yb4) (v := yd4)
          refine SOps.st rfl rfl (Yv.move rfl).yl ?_
          refine SOps.st rfl rfl (Yv.extract rfl rfl).yl ?_
          refine SOps.st rfl rfl (Yv.extract rfl rfl).yl ?_
          refine SOps.st rfl rfl (Yv.assign rfl).yl ?_
          refine SOps.st rfl rfl (Yv.assign rfl).yl ?_
          refine SOps.nil ?_
          refine Run.seq ?_
          refine Run.seq ?_
          refine Run.ops ?_
          refine SOps.st rfl rfl (Yv.move rfl).yl ?_
          refine SOps.st rfl rfl (Yv.move rfl).yl ?_
          refine SOps.st rfl rfl (Yv.move rfl).yl ?_
          refine SOps.one rfl (One.callTabT (H1 := [_, _, _, _, _]) (rs0 := (([] : List (InR Int)) ++ rs5)) rfl callable41 (.cons rfl (.cons rfl (.cons rfl (.nil)))) (fun w' hw' => sVoyageSlots_spec ((Rd.row (i := 1) rfl) w' hw') (by omega)) ?_)
          rintro At6 ct6 rs6 hrs6
          have hrl6 : rs6.length = (voyL ya4 yb4 yd4).length := by rw [← hrs6]; simp
          have hrt6 := voyL_ten (room := ya4) (bs := yb4) (v := yd4)
          refine SOps.st rfl rfl (Yv.move rfl).yl ?_
          refine SOps.st rfl rfl (Yv.extract rfl rfl).yl ?_
          refine SOps.st rfl rfl (Yv.extract rfl rfl).yl ?_
          refine SOps.st rfl rfl (Yv.assign rfl).yl ?_
          refine SOps.st rfl rfl (Yv.assign rfl).yl ?_
          refine SOps.nil ?_
          refine Run.seq ?_
          refine Run.quiet (by intro h; cases h) ?_
          refine QOps.st rfl rfl (Yv.move rfl).yl ?_
          refine QOps.st rfl rfl (Yv.move rfl).yl ?_
          refine QOps.st rfl rfl (Yv.neB bool4 rfl rfl).yl ?_
          refine QOps.st rfl rfl (Yv.move rfl).yl ?_
          refine' QOps.or [_, _, _] _ (.tmp 186) rfl rfl rfl rfl rfl rfl (fun hg16 => ?_) ?_
          rotate_left
          · try replace hg16 := of_decide_eq_false hg16
            refine QOps.st rfl rfl (Yv.move rfl).yl ?_
            refine QOps.st rfl rfl (Yv.move rfl).yl ?_
            refine QOps.st rfl rfl (Yv.neB bool4 rfl rfl).yl ?_
            exact QOps.nil rfl
          refine QOps.st rfl rfl (Yv.move rfl).yl ?_
          refine' QOps.or [_, _, _, _] _ (.tmp 192) rfl rfl rfl rfl rfl rfl (fun hg17 => ?_) ?_
          rotate_left
          · try replace hg17 := of_decide_eq_false hg17
            refine QOps.st rfl rfl (Yv.move rfl).yl ?_
            refine QOps.st rfl rfl (Yv.move rfl).yl ?_
            refine QOps.st rfl rfl (Yl.call callable48 (.cons rfl (.cons rfl (.nil))) (fun w' hw' => rTable_spec ((Rd.row (i := 1) rfl) w' hw') ((Rd.row (i := 0) rfl) w' hw') (rdin_tail (H1 := [_, _, _, _, _, _]) hw' (fun x hx => by simp [hx])) (rdin_tail (H1 := [_, _, _, _, _, _]) hw' (fun x hx => by simp [hx])) (by rw [hrs5, hrs6]))) ?_
            refine QOps.st rfl rfl (Yv.not rfl).yl ?_
            exact QOps.nil rfl
          refine QOps.nil ?_
          refine Run.cond rfl (fun hc13 => ?_) (fun hc13 => ?_)
          · exfalso
            first | (simp at hc13; done) | (simp at hc13; omega)
          · try replace hc13 := of_decide_eq_false hc13
            refine Run.skip ?_
            refine Run.seq ?_
            refine Run.ops ?_
            refine SOps.st rfl rfl (Yv.move rfl).yl ?_
            refine SOps.one rfl (One.callER rfl callable49 (.cons rfl (.nil)) (fun w' hw' => DrawBusySlot_spec ((Rd.arg hs) w' hw')) ?_)
            rintro ⟨ya5, yb5⟩ Aq5 cq5 hx5
            try dsimp only at *
            refine SOps.st rfl rfl (Yv.move rfl).yl ?_
            refine SOps.st rfl rfl (Yv.extract rfl rfl).yl ?_
            refine SOps.st rfl rfl (Yv.extract rfl rfl).yl ?_
            refine SOps.st rfl rfl (Yv.assign rfl).yl ?_
            refine SOps.st rfl rfl (Yv.assign rfl).yl ?_
            refine SOps.nil ?_
            refine Run.seq ?_
            refine Run.quiet (by intro h; cases h) ?_
            refine QOps.st rfl rfl (Yv.move rfl).yl ?_
            refine QOps.st rfl rfl (Yv.move rfl).yl ?_
            refine QOps.st rfl rfl (Yl.call callable22 (.cons rfl (.cons rfl (.nil))) (fun w' hw' => BusySlot_spec ((Rd.row (i := 0) rfl) w' hw'))) ?_
            refine QOps.st rfl rfl (Yv.move rfl).yl ?_
            refine QOps.st rfl rfl (Yv.extract rfl rfl).yl ?_
            refine QOps.st rfl rfl (Yv.extract rfl rfl).yl ?_
            refine QOps.st rfl rfl (Yv.extract rfl rfl).yl ?_
            refine QOps.st rfl rfl (Yv.extract rfl rfl).yl ?_
            refine QOps.st rfl rfl (Yv.assign rfl).yl ?_
            refine QOps.st rfl rfl (Yv.assign rfl).yl ?_
            refine QOps.st rfl rfl (Yv.assign rfl).yl ?_
            refine QOps.st rfl rfl (Yv.assign rfl).yl ?_
            refine QOps.nil ?_
            refine Run.seq ?_
            refine Run.seq ?_
            refine Run.quiet (by intro h; cases h) ?_
            refine QOps.st rfl rfl (Yv.move rfl).yl ?_
            refine QOps.st rfl rfl (Yv.move rfl).yl ?_
            refine QOps.st rfl rfl (Yl.call callable21 (.cons rfl (.cons rfl (.nil))) (fun w' hw' => sBusySlot_spec ((Rd.row (i := 0) rfl) w' hw'))) ?_
            refine QOps.st rfl rfl (Yv.move rfl).yl ?_
            refine QOps.st rfl rfl (Yv.extract rfl rfl).yl ?_
            refine QOps.st rfl rfl (Yv.extract rfl rfl).yl ?_
            refine QOps.st rfl rfl (Yv.extract rfl rfl).yl ?_
            refine QOps.st rfl rfl (Yv.extract rfl rfl).yl ?_
            refine QOps.st rfl rfl (Yv.assign rfl).yl ?_
            refine QOps.st rfl rfl (Yv.assign rfl).yl ?_
            refine QOps.st rfl rfl (Yv.assign rfl).yl ?_
            refine QOps.st rfl rfl (Yv.assign rfl).yl ?_
            refine QOps.nil ?_
            refine Run.seq ?_
            refine Run.quiet (by intro h; cases h) ?_
            refine QOps.st rfl rfl (Yv.move rfl).yl ?_
            refine QOps.st rfl rfl (Yv.move rfl).yl ?_
            refine QOps.st rfl rfl (Yv.neI rfl rfl).yl ?_
            refine QOps.st rfl rfl (Yv.move rfl).yl ?_
            refine' QOps.or [_, _, _] _ (.tmp 221) rfl rfl rfl rfl rfl rfl (fun hg18 => ?_) ?_
            rotate_left
            · try replace hg18 := of_decide_eq_false hg18
              refine QOps.st rfl rfl (Yv.move rfl).yl ?_
              refine QOps.st rfl rfl (Yv.move rfl).yl ?_
              refine QOps.st rfl rfl (Yv.neI rfl rfl).yl ?_
              exact QOps.nil rfl
            refine QOps.st rfl rfl (Yv.move rfl).yl ?_
            refine' QOps.or [_, _, _] _ (.tmp 226) rfl rfl rfl rfl rfl rfl (fun hg19 => ?_) ?_
            rotate_left
            · try replace hg19 := of_decide_eq_false hg19
              refine QOps.st rfl rfl (Yv.move rfl).yl ?_
              refine QOps.st rfl rfl (Yv.move rfl).yl ?_
              refine QOps.st rfl rfl (Yv.neI rfl rfl).yl ?_
              exact QOps.nil rfl
            refine QOps.st rfl rfl (Yv.move rfl).yl ?_
            refine' QOps.or [_, _, _] _ (.tmp 231) rfl rfl rfl rfl rfl rfl (fun hg20 => ?_) ?_
            rotate_left
            · try replace hg20 := of_decide_eq_false hg20
              refine QOps.st rfl rfl (Yv.move rfl).yl ?_
              refine QOps.st rfl rfl (Yv.move rfl).yl ?_
              refine QOps.st rfl rfl (Yv.neB bool4 rfl rfl).yl ?_
              exact QOps.nil rfl
            refine QOps.nil ?_
            refine Run.cond rfl (fun hc14 => ?_) (fun hc14 => ?_)
            · exfalso
              first | (simp at hc14; done) | (simp at hc14; omega)
            · try replace hc14 := of_decide_eq_false hc14
              refine Run.skip ?_
              refine Run.seq ?_
              refine Run.seq ?_
              refine Run.quiet (by intro h; cases h) ?_
              refine QOps.st rfl rfl (Yv.move rfl).yl ?_
              refine QOps.nil ?_
              refine Run.cond rfl (fun hc15 => ?_) (fun hc15 => ?_)
              · try replace hc15 := of_decide_eq_true hc15
                have hBz := busied hc15
                have hBb := hBz.bnd
                have hBh := congrArg Prod.fst hBz.here
                dsimp only at hBh
                refine Run.seq ?_
                refine Run.quiet (by intro h; cases h) ?_
                refine QOps.st rfl rfl (Yv.move rfl).yl ?_
                refine QOps.st rfl rfl (Yv.move rfl).yl ?_
                refine QOps.st rfl rfl (Yv.move rfl).yl ?_
                refine QOps.st rfl rfl (Yv.move rfl).yl ?_
                refine QOps.st rfl rfl (Yl.call callable20 (.cons rfl (.cons rfl (.cons rfl (.cons rfl (.nil))))) (fun w' hw' => SlotRoom_spec ((Rd.row (i := 0) rfl) w' hw'))) ?_
                refine QOps.st rfl rfl (Yv.move rfl).yl ?_
                refine QOps.st rfl rfl (Yv.extract rfl rfl).yl ?_
                refine QOps.st rfl rfl (Yv.extract rfl rfl).yl ?_
                refine QOps.st rfl rfl (Yv.assign rfl).yl ?_
                refine QOps.st rfl rfl (Yv.assign rfl).yl ?_
                refine QOps.nil ?_
                refine Run.seq ?_
                refine Run.seq ?_
                refine Run.quiet (by intro h; cases h) ?_
                refine QOps.st rfl rfl (Yv.move rfl).yl ?_
                refine QOps.st rfl rfl (Yv.not rfl).yl ?_
                refine QOps.st rfl rfl (Yv.move rfl).yl ?_
                refine' QOps.or [_, _, _, _, _] _ (.tmp 249) rfl rfl rfl rfl rfl rfl (fun hg21 => ?_) ?_
                rotate_left
                · try replace hg21 := of_decide_eq_false hg21
                  refine QOps.st rfl rfl (Yv.move rfl).yl ?_
                  refine QOps.st rfl rfl (Yv.move rfl).yl ?_
                  refine QOps.st rfl rfl (Yv.move rfl).yl ?_
                  refine QOps.st rfl rfl (Yv.sub rfl rfl (by omega)).yl ?_
                  refine QOps.st rfl rfl (Yv.neI rfl rfl).yl ?_
                  exact QOps.nil rfl
                refine QOps.nil ?_
                refine Run.cond rfl (fun hc16 => ?_) (fun hc16 => ?_)
                · exfalso
                  rw [hBz.here] at hc16
                  simp at hc16
                · try replace hc16 := of_decide_eq_false hc16
                  refine Run.skip ?_
                  refine Run.seq ?_
                  refine Run.quiet (by intro h; cases h) ?_
                  refine QOps.st rfl rfl (Yv.assign rfl).yl ?_
                  refine QOps.nil ?_
                  refine Run.block ?_
                  refine Run.loop (S := Nat) (fun s => match s with | i => i ≤ yb5.length) (fun s => match s with | i => [(30, .int .i64 ya5), (31, .slice Aq5 yb5.length cq5), (40, .int .i64 (roomOf ya5 yb5 ((busyL ya5 yb5)) ((busyS ya5 yb5))).1), (42, .int .i64 (i : Int))]) (fun s => match s with | i => [.row Aq5 cq5 49 4 yb5.length (yb5.flatMap Booking.enc)]) (fun s => match s with | i => yb5.length - i) 0 ?_ (SubE.cons rfl (SubE.cons rfl (SubE.cons rfl (SubE.cons rfl (SubE.nil _))))) (List.Sublist.cons_cons _ (List.nil_sublist _)) ?_
                  · exact Nat.zero_le _
                  · rintro i hi
                    show Run _ _ _ _ _ [(30, .int .i64 ya5), (31, .slice Aq5 yb5.length cq5), (40, .int .i64 (roomOf ya5 yb5 ((busyL ya5 yb5)) ((busyS ya5 yb5))).1), (42, .int .i64 (i : Int))] [.row Aq5 cq5 49 4 yb5.length (yb5.flatMap Booking.enc)] _
                    refine Run.seq ?_
                    refine Run.seq ?_
                    refine Run.quiet (by intro h; cases h) ?_
                    refine QOps.st rfl rfl (Yv.move rfl).yl ?_
                    refine QOps.st rfl rfl (Yv.move rfl).yl ?_
                    refine QOps.st rfl rfl (Yv.lenS el25s rfl).yl ?_
                    refine QOps.st rfl rfl (Yv.lss rfl rfl).yl ?_
                    refine QOps.nil ?_
                    refine Run.cond rfl (fun hc17 => ?_) (fun hc17 => ?_)
                    · try replace hc17 := of_decide_eq_true hc17
                      refine Run.skip ?_
                      refine Run.seq ?_
                      refine Run.block ?_
                      refine Run.seq ?_
                      refine Run.quiet (fun _ => ⟨by kernel_rfl, by kernel_rfl⟩) ?_
                      refine QOps.st rfl rfl (Yv.move rfl).yl ?_
                      refine QOps.st rfl rfl (Yv.move rfl).yl ?_
                      refine QOps.st rfl rfl (Yv.move rfl).yl ?_
                      refine QOps.st rfl rfl (Yv.move rfl).yl ?_
                      refine QOps.st rfl rfl (Yv.indexAddr i el25 rfl rfl rfl (Rd.row (i := 0) rfl) (by omega)).yl ?_
                      refine QOps.st rfl rfl (Yv.fieldAddr fld49_2 rfl).yl ?_
                      refine QOps.st rfl rfl (Yv.loadF lay3 rfl Booking.len (Rd.row (i := 0) rfl) (by first | omega | (simp; omega)) (by decide) rfl).yl ?_
                      refine QOps.st rfl rfl (Yv.move rfl).yl ?_
                      refine QOps.st rfl rfl (Yv.move rfl).yl ?_
                      refine QOps.st rfl rfl (Yv.indexAddr i el25 rfl rfl rfl (Rd.row (i := 0) rfl) (by omega)).yl ?_
                      refine QOps.st rfl rfl (Yv.fieldAddr fld49_3 rfl).yl ?_
                      refine QOps.st rfl rfl (Yv.loadF lay3 rfl Booking.len (Rd.row (i := 0) rfl) (by first | omega | (simp; omega)) (by decide) rfl).yl ?_
                      refine QOps.st rfl rfl (Yl.call callable20 (.cons rfl (.cons rfl (.cons rfl (.cons rfl (.nil))))) (fun w' hw' => SlotRoom_spec ((Rd.row (i := 0) rfl) w' hw'))) ?_
                      refine QOps.st rfl rfl (Yv.move rfl).yl ?_
                      refine QOps.st rfl rfl (Yv.extract rfl rfl).yl ?_
                      refine QOps.st rfl rfl (Yv.extract rfl rfl).yl ?_
                      refine QOps.st rfl rfl (Yv.assign rfl).yl ?_
                      refine QOps.st rfl rfl (Yv.assign rfl).yl ?_
                      refine QOps.nil ?_
                      refine Run.seq ?_
                      refine Run.quiet (by intro h; cases h) ?_
                      refine QOps.st rfl rfl (Yv.move rfl).yl ?_
                      refine QOps.st rfl rfl (Yv.not rfl).yl ?_
                      refine QOps.st rfl rfl (Yv.move rfl).yl ?_
                      refine' QOps.or [_, _, _] _ (.tmp 278) rfl rfl rfl rfl rfl rfl (fun hg22 => ?_) ?_
                      rotate_left
                      · try replace hg22 := of_decide_eq_false hg22
                        refine QOps.st rfl rfl (Yv.move rfl).yl ?_
                        refine QOps.st rfl rfl (Yv.move rfl).yl ?_
                        refine QOps.st rfl rfl (Yv.lss rfl rfl).yl ?_
                        exact QOps.nil rfl
                      refine QOps.nil ?_
                      refine Run.cond rfl (fun hc18 => ?_) (fun hc18 => ?_)
                      · exfalso
                        rw [hBz.here] at hc18
                        have hE := hBz.each i (by omega)
                        rw [hE.1] at hc18
                        simp at hc18
                        omega
                      · try replace hc18 := of_decide_eq_false hc18
                        refine Run.skip ?_
                        refine Run.quiet (by intro h; cases h) ?_
                        refine QOps.st rfl rfl (Yv.move rfl).yl ?_
                        refine QOps.st rfl rfl (Yv.succN rfl rfl (by omega)).yl ?_
                        refine QOps.st rfl rfl (Yv.assign rfl).yl ?_
                        refine QOps.nil ?_
                        refine ⟨i + 1, ?_, ?_, (SubE.cons rfl (SubE.cons rfl (SubE.cons rfl (SubE.cons rfl (SubE.nil _))))), (List.Sublist.refl _)⟩
                        · show i + 1 ≤ _; omega
                        · first | omega | (dsimp only; omega)
                    · try replace hc17 := of_decide_eq_false hc17
                      refine Run.exit ?_
                      refine Run.seq ?_
                      refine Run.quiet (by intro h; cases h) ?_
                      refine QOps.st rfl rfl (Yv.assign rfl).yl ?_
                      refine QOps.nil ?_
                      refine Run.ret ?_
                      refine retQ.of (.inr rfl) rfl (.tmp rfl .nil) (fun w' hw' => ?_)
                      refine ⟨?_, hw'.bel.below⟩
                      refine retB_eq ?_
                      simp
              · try replace hc15 := of_decide_eq_false hc15
                refine Run.skip ?_
                refine Run.seq ?_
                refine Run.quiet (by intro h; cases h) ?_
                refine QOps.st rfl rfl (Yv.assign rfl).yl ?_
                refine QOps.nil ?_
                refine Run.ret ?_
                refine retQ.of (.inr rfl) rfl (.tmp rfl .nil) (fun w' hw' => ?_)
                refine ⟨?_, hw'.bel.below⟩
                refine retB_eq ?_
                simp
end Go.Proofs.Ythgekachgpcjbaa
