/- Convoys: barges that leave. Conditions: none. -/
import Derived.Test.YtfpglglolhlegaaCon7
namespace Go.Proofs.Ytfpglglolhlegaa
open Go.RowKit
set_option maxRecDepth 100000
theorem delInt_spec {w : World} {A : Option Addr} {c m i j : Nat} {l : List Int} (hrow : (HEnt.row A c 3 1 m (l.flatMap intC)).ok w) (hl : l.length = m) (hij : i ≤ j) (hjm : j ≤ m) :
    Calls Try.prog 75 #[.slice A m c, .int .i64 (i : Int), .int .i64 (j : Int)] w (RetGrow w A 3 1 (i + (m - j)) ((l.take i ++ l.drop j).flatMap intC)) := by
  have hmc := (sl_of_row hrow).cap
  refine calls_of_run (vs := [_, _, _]) (L := [(0, _), (1, _), (2, _)]) (n := 33) (F := (A.map (·.block)).toList) (H := [_]) Try.func75 rfl rfl rfl rfl (HOk.borrowRow hrow) ?_
  refine Run.seq ?_
  refine Run.quiet (by intro h; cases h) ?_
  refine QOps.st rfl rfl (Yv.assign rfl).yl ?_
  refine QOps.nil ?_
  refine Run.seq ?_
  refine Run.quiet (by intro h; cases h) ?_
  refine QOps.st rfl rfl (Yv.move rfl).yl ?_
  refine QOps.st rfl rfl (Yv.move rfl).yl ?_
  refine QOps.st rfl rfl (Yv.move rfl).yl ?_
  refine QOps.st rfl rfl (Yv.move rfl).yl ?_
  refine QOps.st rfl rfl (Yv.lenS el22s rfl).yl ?_
  refine QOps.st rfl rfl (Yv.cut3 (i) (j) (m) el22 rfl rfl rfl rfl rfl rfl rfl (by omega) (by omega) (by omega)).yl ?_
  refine QOps.nil ?_
  refine Run.seq ?_
  refine Run.seq ?_
  refine Run.quiet (by intro h; cases h) ?_
  refine QOps.st rfl rfl (Yv.move rfl).yl ?_
  refine QOps.st rfl rfl (Yv.move rfl).yl ?_
  refine QOps.st rfl rfl (Yv.eqI rfl rfl).yl ?_
  refine QOps.nil ?_
  refine Run.cond rfl (fun hc1 => ?_) (fun hc1 => ?_)
  · try replace hc1 := of_decide_eq_true hc1
    refine Run.seq ?_
    refine Run.quiet (by intro h; cases h) ?_
    refine QOps.st rfl rfl (Yv.move rfl).yl ?_
    refine QOps.st rfl rfl (Yv.assign rfl).yl ?_
    refine QOps.nil ?_
    refine Run.ret ?_
    refine retQ.of (.inr rfl) rfl (.tmp rfl .nil) (fun w' hw' => ?_)
    have hij' : i = j := by omega
    subst hij'
    have e1 : i + (m - i) = m := by omega
    rw [e1, List.take_append_drop]
    exact retGrow_same hw'.bel (hw'.ent _ (List.mem_of_getElem? (i := 0) rfl))
  · try replace hc1 := of_decide_eq_false hc1
    refine Run.skip ?_
    refine Run.seq ?_
    refine Run.quiet (by intro h; cases h) ?_
    refine QOps.st rfl rfl (Yv.move rfl).yl ?_
    refine QOps.st rfl rfl (Yv.lenS el22s rfl).yl ?_
    refine QOps.st rfl rfl (Yv.assign rfl).yl ?_
    refine QOps.nil ?_
    refine Run.seq ?_
    refine Run.draws (fun H => (H).eraseIdx 0) (m := 8) (listed := #[false, false, false, false, false, false, false, false]) (by kernel_rfl) rfl rfl ?_
    refine DOps.take (listed' := #[true, false, false, false, false, false, false, false]) 0 rfl (by kernel_rfl) rfl (List.nil_sublist _) rfl rfl (Yv.move rfl) ?_
    refine DOps.take (listed' := #[true, true, false, false, false, false, false, false]) 1 rfl (by kernel_rfl) rfl (List.nil_sublist _) rfl rfl (Yv.move rfl) ?_
    refine DOps.take (listed' := #[true, true, true, false, false, false, false, false]) 2 rfl (by kernel_rfl) rfl (List.nil_sublist _) rfl rfl (Yv.cutTo0 i el22 rfl rfl rfl (by omega)) ?_
    refine DOps.take (listed' := #[true, true, true, true, false, false, false, false]) 3 rfl (by kernel_rfl) rfl (List.nil_sublist _) rfl rfl (Yv.move rfl) ?_
    refine DOps.take (listed' := #[true, true, true, true, true, false, false, false]) 4 rfl (by kernel_rfl) rfl (List.nil_sublist _) rfl rfl (Yv.move rfl) ?_
    refine DOps.take (listed' := #[true, true, true, true, true, true, false, false]) 5 rfl (by kernel_rfl) rfl (List.nil_sublist _) rfl rfl (Yv.cutFrom j el22 rfl rfl rfl (by omega)) ?_
    refine DOps.only (listed' := #[true, true, true, true, true, true, true, false]) 6 rfl (by kernel_rfl) rfl rfl ?_
    refine One.appendIn (enc := intC) (l := l) (l2 := (l.drop j)) (m' := (i + (m - j))) (i := 0) (H' := [_]) rfl el22 intC_len rfl rfl rfl (Rd.cutF (xs := l) intC_len (Rd.row (i := 0) rfl) hl (by omega)) (by simp; omega) (fun _ => rfl) rfl (by omega) rfl ?_
    refine ⟨(List.nil_sublist _), ?_⟩
    refine DOps.take (listed' := #[true, true, true, true, true, true, true, true]) 7 rfl (by kernel_rfl) rfl (List.nil_sublist _) rfl rfl (Yv.assign rfl) ?_
    refine DOps.done (by kernel_rfl) ?_
    refine Run.seq ?_
    refine Run.ops ?_
    refine SOps.st rfl rfl (Yv.move rfl).yl ?_
    refine SOps.st rfl rfl (Yv.move rfl).yl ?_
    refine SOps.st rfl rfl (Yv.lenS el22s rfl).yl ?_
    refine SOps.st rfl rfl (Yv.move rfl).yl ?_
    refine SOps.st rfl rfl (Yv.cutBoth ((i + (m - j))) m el22 rfl rfl rfl rfl rfl (by omega) (by omega)).yl ?_
    refine SOps.one rfl (One.clear (enc := intC) (z := default) (l := (l.take i ++ (l.drop j) ++ l.drop (i + (m - j)))) (o := ((i + (m - j)))) (i := 0) (H' := [_]) el22 zero3 rfl intC_len rfl rfl (fun hk => cutA_at (by omega)) rfl (by omega) rfl ?_)
    refine SOps.nil ?_
    refine Run.seq ?_
    refine Run.quiet (by intro h; cases h) ?_
    refine QOps.st rfl rfl (Yv.move rfl).yl ?_
    refine QOps.st rfl rfl (Yv.assign rfl).yl ?_
    refine QOps.nil ?_
    refine Run.ret ?_
    refine retQ.of (.inr rfl) rfl (.tmp rfl .nil) (fun w' hw' => ?_)
    have h3 := row_less' (m' := i + (m - j)) intC_len (hw'.ent _ (List.mem_of_getElem? (i := 0) rfl)) (by omega)
    have e2 := del_take (z := (default : Int)) (l := l) (i := i) (j := j) (m := m) hl hij hjm
    rw [e2] at h3
    exact retGrow_same hw'.bel h3

theorem copyIntsN_spec {w : World} {A : Option Addr} {c n : Nat} {l : List Int} (hn : l.length = n) (hs : Sl w 1 A n c (l.flatMap intC)) (hl : n ≤ 4000000) : Calls Try.prog 70 #[.slice A n c] w (RetRow w 3 1 n (l.flatMap intC) (fun v => v)) := by subst hn; exact copyInts_spec hs hl
theorem l1OwnN_spec {w : World} {A : Option Addr} {c n : Nat} {l : List Int} (hn : l.length = n) (hs : Sl w 1 A n c (l.flatMap intC)) (hl : n ≤ 4000000) : Calls Try.prog 74 #[.slice A n c] w (RetRow w 3 1 n (l.flatMap intC) (fun v => v)) := by subst hn; exact l1Own_spec hs hl
def leaveOk (p : Int) (l : List Int) (f n : Int) : Bool := validConvoy p l && (decide (0 ≤ f) && (decide (1 ≤ n) && (decide (f + n ≤ (l.length : Int)) && !decide (n = (l.length : Int)))))
def leaveP (p : Int) (l : List Int) (f n : Int) : Int := if leaveOk p l f n = true then p else 0
def leaveRest (p : Int) (l : List Int) (f n : Int) : List Int := if leaveOk p l f n = true then l.take f.toNat ++ l.drop (f.toNat + n.toNat) else []
def leaveGone (p : Int) (l : List Int) (f n : Int) : List Int := if leaveOk p l f n = true then (l.drop f.toNat).take (f.toNat + n.toNat - f.toNat) else []
theorem leaveOk_iff {p f n : Int} {l : List Int} : leaveOk p l f n = true ↔ validConvoy p l = true ∧ 0 ≤ f ∧ 1 ≤ n ∧ f + n ≤ l.length ∧ ¬ n = l.length := by simp [leaveOk]
theorem leaveRest_len {p f n : Int} {l : List Int} : (leaveRest p l f n).length ≤ l.length := by
  unfold leaveRest
  split
  · simp; omega
  · simp
theorem leaveGone_len {p f n : Int} {l : List Int} : (leaveGone p l f n).length ≤ l.length := by
  unfold leaveGone
  split
  · simp; omega
  · simp
theorem leave_yes {p : Int} {l : List Int} {a b : Nat} (hy : leaveOk p l a b = true) : leaveP p l a b = p ∧ leaveRest p l a b = l.take a ++ l.drop (a + b) ∧ leaveGone p l a b = (l.drop a).take (a + b - a) := by
  unfold leaveP leaveRest leaveGone
  rw [if_pos hy, if_pos hy, if_pos hy]
  exact ⟨rfl, rfl, rfl⟩
theorem leave_no {p f n : Int} {l : List Int} (hn : leaveOk p l f n = false) : leaveP p l f n = 0 ∧ leaveRest p l f n = [] ∧ leaveGone p l f n = [] := by
  unfold leaveP leaveRest leaveGone
  rw [if_neg (by rw [hn]; simp), if_neg (by rw [hn]; simp), if_neg (by rw [hn]; simp)]
  exact ⟨rfl, rfl, rfl⟩
theorem restLen {l : List Int} {a b : Nat} (h : a + b ≤ l.length) : (l.take a ++ l.drop (a + b)).length = a + (l.length - (a + b)) := by simp; omega
theorem goneLen {l : List Int} {a b : Nat} (h : a + b ≤ l.length) : ((l.drop a).take (a + b - a)).length = a + b - a := by simp; omega
theorem LeaveBarges_spec {w : World} {A : Option Addr} {c : Nat} {p f n : Int} {l : List Int} (hs : Sl w 1 A l.length c (l.flatMap intC)) (hl : l.length ≤ 2000000) :
    Calls Try.prog 41 #[.agg #[.int .i64 p, .slice A l.length c], .int .i64 f, .int .i64 n] w (RetRow2 w 3 1 (leaveRest p l f n).length ((leaveRest p l f n).flatMap intC) 3 1 (leaveGone p l f n).length ((leaveGone p l f n).flatMap intC) (fun v v2 => .tuple #[.agg #[.int .i64 (leaveP p l f n), v], v2, .bool (leaveOk p l f n)])) := by
  have hcap := hs.cap
  refine calls_of_run (vs := [_, _, _]) (L := [(0, _), (1, _), (2, _)]) (n := 60) (F := []) (H := []) Try.func41 rfl rfl rfl rfl (HOk.start _) ?_
  refine Run.seq ?_
  refine Run.ops ?_
  refine SOps.one rfl (One.box (cs := [_, _]) rfl rfl rfl (fun b1 => ?_))
  refine SOps.one rfl (One.alloc rfl zero27 (fun b2 => ?_))
  refine SOps.st rfl rfl (Yv.assign rfl).yl ?_
  refine SOps.st rfl rfl (Yv.assign rfl).yl ?_
  refine SOps.nil ?_
  refine Run.seq ?_
  refine Run.seq ?_
  refine Run.quiet (by intro h; cases h) ?_
  refine QOps.st rfl rfl (Yv.loadBs (i := 1) lay27 rfl rfl rfl rfl).yl ?_
  refine QOps.st rfl rfl (Yl.call callable18 (.cons rfl (.nil)) (fun w' hw' => IsValidConvoy_spec ((Rd.arg hs) w' hw'))) ?_
  refine QOps.st rfl rfl (Yv.not rfl).yl ?_
  refine QOps.st rfl rfl (Yv.move rfl).yl ?_
  refine' QOps.or [_, _, _, _, _, _, _] _ (.tmp 20) rfl rfl rfl rfl rfl rfl (fun hg1 => ?_) ?_
  rotate_left
  · try replace hg1 := of_decide_eq_false hg1
    refine QOps.st rfl rfl (Yv.move rfl).yl ?_
    refine QOps.st rfl rfl (Yv.fieldAddr fld27_1 rfl).yl ?_
    refine QOps.st rfl rfl (Yv.loadB (i := 1) lay22 rfl rfl rfl rfl).yl ?_
    refine QOps.st rfl rfl (Yv.lenS el22s rfl).yl ?_
    refine QOps.st rfl rfl (Yv.sub rfl rfl (by omega)).yl ?_
    refine QOps.st rfl rfl (Yl.call callable55 (.cons rfl (.cons rfl (.cons rfl (.nil)))) (fun w' hw' => inside_spec)) ?_
    refine QOps.st rfl rfl (Yv.not rfl).yl ?_
    exact QOps.nil rfl
  refine QOps.st rfl rfl (Yv.move rfl).yl ?_
  refine' QOps.or [_, _, _, _, _, _, _, _] _ (.tmp 30) rfl rfl rfl rfl rfl rfl (fun hg2 => ?_) ?_
  rotate_left
  · try replace hg2 := of_decide_eq_false hg2
    simp [inB] at hg2
    refine QOps.st rfl rfl (Yv.move rfl).yl ?_
    refine QOps.st rfl rfl (Yv.fieldAddr fld27_1 rfl).yl ?_
    refine QOps.st rfl rfl (Yv.loadB (i := 1) lay22 rfl rfl rfl rfl).yl ?_
    refine QOps.st rfl rfl (Yv.lenS el22s rfl).yl ?_
    refine QOps.st rfl rfl (Yv.move rfl).yl ?_
    refine QOps.st rfl rfl (Yv.sub rfl rfl (by omega)).yl ?_
    refine QOps.st rfl rfl (Yl.call callable55 (.cons rfl (.cons rfl (.cons rfl (.nil)))) (fun w' hw' => inside_spec)) ?_
    refine QOps.st rfl rfl (Yv.not rfl).yl ?_
    exact QOps.nil rfl
  refine QOps.st rfl rfl (Yv.move rfl).yl ?_
  refine' QOps.or [_, _, _, _, _] _ (.tmp 37) rfl rfl rfl rfl rfl rfl (fun hg3 => ?_) ?_
  rotate_left
  · try replace hg3 := of_decide_eq_false hg3
    refine QOps.st rfl rfl (Yv.move rfl).yl ?_
    refine QOps.st rfl rfl (Yv.fieldAddr fld27_1 rfl).yl ?_
    refine QOps.st rfl rfl (Yv.loadB (i := 1) lay22 rfl rfl rfl rfl).yl ?_
    refine QOps.st rfl rfl (Yv.lenS el22s rfl).yl ?_
    refine QOps.st rfl rfl (Yv.eqI rfl rfl).yl ?_
    exact QOps.nil rfl
  refine QOps.nil ?_
  refine Run.cond rfl (fun hc1 => ?_) (fun hc1 => ?_)
  · try replace hc1 := of_decide_eq_true hc1
    have hn : leaveOk p l f n = false := by
          rw [Bool.eq_false_iff]; intro h; rw [leaveOk_iff] at h; obtain ⟨h1, h2, h3, h4, h5⟩ := h; rw [h1] at hc1; simp [inB] at hc1; omega
    obtain ⟨e1, e2, e3⟩ := leave_no hn
    refine Run.seq ?_
    refine Run.ops ?_
    refine SOps.st rfl rfl (Yv.buildG (pv := []) (cs := [_, _]) (fun _ => [.int .i64 0, .slice none 0 0]) .nil rfl rfl (by kernel_rfl)).yl ?_
    refine SOps.one rfl (One.store (i := 0) (off := 0) (vs := [_, _]) (cs' := [_, _]) (H' := [_, _]) lay27 rfl rfl rfl rfl rfl rfl rfl rfl rfl rfl ?_)
    refine SOps.st rfl rfl (Yv.assign rfl).yl ?_
    refine SOps.st rfl rfl (Yv.assign rfl).yl ?_
    refine SOps.nil ?_
    refine Run.ret ?_
    refine retQ.of (.inr rfl) rfl (.cells (i := 0) rfl lay27 rfl rfl (.tmp rfl (.tmp rfl .nil))) (fun w' hw' => ?_)
    rw [e1, e2, e3, hn]
    exact retRow2_nil hw' rfl
  · try replace hc1 := of_decide_eq_false hc1
    have hy : leaveOk p l f n = true := by
          rw [leaveOk_iff]; cases hv : validConvoy p l
          · rw [hv] at hc1; simp at hc1
          · rw [hv] at hc1; simp [inB] at hc1; refine ⟨rfl, ?_⟩; omega
    have hy2 := leaveOk_iff.1 hy
    obtain ⟨a, rfl⟩ : ∃ a : Nat, f = (a : Int) := ⟨f.toNat, by omega⟩
    obtain ⟨b, rfl⟩ : ∃ b : Nat, n = (b : Int) := ⟨n.toNat, by omega⟩
    have hab : a + b ≤ l.length := by omega
    obtain ⟨e1, e2, e3⟩ := leave_yes hy
    refine Run.skip ?_
    refine Run.seq ?_
    refine Run.ops ?_
    refine SOps.st rfl rfl (Yv.fieldAddr fld27_1 rfl).yl ?_
    refine SOps.st rfl rfl (Yv.loadB (i := 1) lay22 rfl rfl rfl rfl).yl ?_
    refine SOps.one rfl (One.callRow rfl callable70 (.cons rfl (.nil)) (fun w' hw' => copyIntsN_spec (by first | rfl | (simp; done) | (simp; omega)) ((Rd.arg hs) w' hw') (by omega)) (fun A1 c1 => ?_))
    refine SOps.st rfl rfl (Yv.move rfl).yl ?_
    refine SOps.st rfl rfl (Yv.move rfl).yl ?_
    refine SOps.st rfl rfl (Yv.move rfl).yl ?_
    refine SOps.st rfl rfl (Yv.addN rfl rfl (by omega)).yl ?_
    refine SOps.one rfl (One.callGrow (i := 0) (H' := fun A c => [_, _, _]) rfl callable75 (.cons rfl (.cons rfl (.cons rfl (.nil)))) rfl (fun w' hw' => delInt_spec (hw'.ent _ (List.mem_of_getElem? (i := 0) rfl)) (by simp) (by omega) (by omega)) (fun _ _ => rfl) (fun A2 c2 => ?_))
    refine SOps.st rfl rfl (Yv.assign rfl).yl ?_
    refine SOps.nil ?_
    refine Run.seq ?_
    refine Run.draws (fun H => (H).eraseIdx 1) (m := 15) (listed := #[false, false, false, false, false, false, false, false, false, false, false, false, false, false, false]) (by kernel_rfl) rfl rfl ?_
    refine DOps.take (listed' := #[true, false, false, false, false, false, false, false, false, false, false, false, false, false, false]) 0 rfl (by kernel_rfl) rfl (List.Sublist.cons_cons _ (List.Sublist.cons _ (List.Sublist.refl _))) rfl rfl (Yv.fieldAddr fld27_0 rfl) ?_
    refine DOps.take (listed' := #[true, true, false, false, false, false, false, false, false, false, false, false, false, false, false]) 1 rfl (by kernel_rfl) rfl (List.Sublist.cons_cons _ (List.Sublist.cons _ (List.Sublist.refl _))) rfl rfl (Yv.loadB (i := 1) lay3 rfl rfl rfl rfl) ?_
    refine DOps.take (listed' := #[true, true, true, false, false, false, false, false, false, false, false, false, false, false, false]) 2 rfl (by kernel_rfl) rfl (List.Sublist.cons_cons _ (List.Sublist.cons _ (List.Sublist.refl _))) rfl rfl (Yv.move rfl) ?_
    refine DOps.take (listed' := #[true, true, true, true, false, false, false, false, false, false, false, false, false, false, false]) 3 rfl (by kernel_rfl) rfl (List.Sublist.cons_cons _ (List.Sublist.cons _ (List.Sublist.refl _))) rfl rfl (Yv.buildG (pv := [(0, _), (1, _)]) (cs := [_, _]) (fun l => match l with | [a0_0, a1_0] => [a0_0, a1_0] | _ => []) (.cons rfl (.cons rfl (.nil))) rfl rfl (by kernel_rfl)) ?_
    refine DOps.take (listed' := #[true, true, true, true, true, false, false, false, false, false, false, false, false, false, false]) 4 rfl (by kernel_rfl) rfl (List.Sublist.cons_cons _ (List.Sublist.cons _ (List.Sublist.refl _))) rfl rfl (Yv.fieldAddr fld27_1 rfl) ?_
    refine DOps.take (listed' := #[true, true, true, true, true, true, false, false, false, false, false, false, false, false, false]) 5 rfl (by kernel_rfl) rfl (List.Sublist.cons_cons _ (List.Sublist.cons _ (List.Sublist.refl _))) rfl rfl (Yv.loadB (i := 1) lay22 rfl rfl rfl rfl) ?_
    refine DOps.take (listed' := #[true, true, true, true, true, true, true, false, false, false, false, false, false, false, false]) 6 rfl (by kernel_rfl) rfl (List.Sublist.cons_cons _ (List.Sublist.cons _ (List.Sublist.refl _))) rfl rfl (Yv.move rfl) ?_
    refine DOps.take (listed' := #[true, true, true, true, true, true, true, true, false, false, false, false, false, false, false]) 7 rfl (by kernel_rfl) rfl (List.Sublist.cons_cons _ (List.Sublist.cons _ (List.Sublist.refl _))) rfl rfl (Yv.move rfl) ?_
    refine DOps.take (listed' := #[true, true, true, true, true, true, true, true, true, false, false, false, false, false, false]) 8 rfl (by kernel_rfl) rfl (List.Sublist.cons_cons _ (List.Sublist.cons _ (List.Sublist.refl _))) rfl rfl (Yv.move rfl) ?_
    refine DOps.take (listed' := #[true, true, true, true, true, true, true, true, true, true, false, false, false, false, false]) 9 rfl (by kernel_rfl) rfl (List.Sublist.cons_cons _ (List.Sublist.cons _ (List.Sublist.refl _))) rfl rfl (Yv.addN rfl rfl (by omega)) ?_
    refine DOps.take (listed' := #[true, true, true, true, true, true, true, true, true, true, true, false, false, false, false]) 10 rfl (by kernel_rfl) rfl (List.Sublist.cons_cons _ (List.Sublist.cons _ (List.Sublist.refl _))) rfl rfl (Yv.cutBoth a (a + b) el22 rfl rfl rfl rfl rfl (by omega) (by omega)) ?_
    refine DOps.only (listed' := #[true, true, true, true, true, true, true, true, true, true, true, true, false, false, false]) 11 rfl (by kernel_rfl) rfl rfl ?_
    refine One.callRow rfl callable70 (.cons rfl (.nil)) (fun w' hw' => copyIntsN_spec (by first | rfl | (simp; done) | (simp; omega)) ((Rd.cutB intC_len (Rd.arg hs) (by omega) (by omega)) w' hw') (by omega)) (fun A3 c3 => ?_)
    refine ⟨(List.Sublist.cons _ (List.Sublist.cons_cons _ (List.Sublist.cons _ (List.Sublist.refl _)))), ?_⟩
    refine DOps.only (listed' := #[true, true, true, true, true, true, true, true, true, true, true, true, true, false, false]) 12 rfl (by kernel_rfl) rfl rfl ?_
    refine One.store (i := 2) (off := 0) (vs := [_, _]) (cs' := [_, _]) (H' := [_, _, _, _]) lay27 rfl rfl rfl rfl rfl rfl rfl rfl rfl rfl ?_
    refine ⟨(List.Sublist.cons _ (List.Sublist.cons_cons _ (List.Sublist.cons _ (List.Sublist.refl _)))), ?_⟩
    refine DOps.take (listed' := #[true, true, true, true, true, true, true, true, true, true, true, true, true, true, false]) 13 rfl (by kernel_rfl) rfl (List.Sublist.cons _ (List.Sublist.cons_cons _ (List.Sublist.cons _ (List.Sublist.refl _)))) rfl rfl (Yv.assign rfl) ?_
    refine DOps.take (listed' := #[true, true, true, true, true, true, true, true, true, true, true, true, true, true, true]) 14 rfl (by kernel_rfl) rfl (List.Sublist.cons _ (List.Sublist.cons_cons _ (List.Sublist.cons _ (List.Sublist.refl _)))) rfl rfl (Yv.assign rfl) ?_
    refine DOps.done (by kernel_rfl) ?_
    refine Run.ret ?_
    refine retQ.of (.inr rfl) rfl (.cells (i := 2) rfl lay27 rfl rfl (.tmp rfl (.tmp rfl .nil))) (fun w' hw' => ?_)
    rw [e1, e2, e3, hy, restLen hab, goneLen hab]
    exact retRow2_own (i := 1) (j := 0) hw' rfl rfl rfl rfl

theorem sLeaveBarges_spec {w : World} {A : Option Addr} {c : Nat} {p f n : Int} {l : List Int} (hs : Sl w 1 A l.length c (l.flatMap intC)) (hl : l.length ≤ 2000000) :
    Calls Try.prog 40 #[.agg #[.int .i64 p, .slice A l.length c], .int .i64 f, .int .i64 n] w (RetRow2 w 3 1 (leaveRest p l f n).length ((leaveRest p l f n).flatMap intC) 3 1 (leaveGone p l f n).length ((leaveGone p l f n).flatMap intC) (fun v v2 => .tuple #[.agg #[.int .i64 (leaveP p l f n), v], v2, .bool (leaveOk p l f n)])) := by
  have hcap := hs.cap
  refine calls_of_run (vs := [_, _, _]) (L := [(0, _), (1, _), (2, _)]) (n := 70) (F := []) (H := []) Try.func40 rfl rfl rfl rfl (HOk.start _) ?_
  refine Run.seq ?_
  refine Run.ops ?_
  refine SOps.one rfl (One.box (cs := [_, _]) rfl rfl rfl (fun b1 => ?_))
  refine SOps.one rfl (One.alloc rfl zero27 (fun b2 => ?_))
  refine SOps.st rfl rfl (Yv.assign rfl).yl ?_
  refine SOps.st rfl rfl (Yv.assign rfl).yl ?_
  refine SOps.nil ?_
  refine Run.seq ?_
  refine Run.seq ?_
  refine Run.quiet (by intro h; cases h) ?_
  refine QOps.st rfl rfl (Yv.loadBs (i := 1) lay27 rfl rfl rfl rfl).yl ?_
  refine QOps.st rfl rfl (Yl.call callable54 (.cons rfl (.nil)) (fun w' hw' => l19Good_spec ((Rd.arg hs) w' hw'))) ?_
  refine QOps.st rfl rfl (Yv.not rfl).yl ?_
  refine QOps.st rfl rfl (Yv.move rfl).yl ?_
  refine' QOps.or [_, _] _ (.tmp 15) rfl rfl rfl rfl rfl rfl (fun hg1 => ?_) ?_
  rotate_left
  · try replace hg1 := of_decide_eq_false hg1
    refine QOps.st rfl rfl (Yv.move rfl).yl ?_
    refine QOps.st rfl rfl (Yv.lss rfl rfl).yl ?_
    exact QOps.nil rfl
  refine QOps.st rfl rfl (Yv.move rfl).yl ?_
  refine' QOps.or [_, _] _ (.tmp 19) rfl rfl rfl rfl rfl rfl (fun hg2 => ?_) ?_
  rotate_left
  · try replace hg2 := of_decide_eq_false hg2
    refine QOps.st rfl rfl (Yv.move rfl).yl ?_
    refine QOps.st rfl rfl (Yv.lss rfl rfl).yl ?_
    exact QOps.nil rfl
  refine QOps.st rfl rfl (Yv.move rfl).yl ?_
  refine' QOps.or [_, _, _, _, _] _ (.tmp 26) rfl rfl rfl rfl rfl rfl (fun hg3 => ?_) ?_
  rotate_left
  · try replace hg3 := of_decide_eq_false hg3
    refine QOps.st rfl rfl (Yv.move rfl).yl ?_
    refine QOps.st rfl rfl (Yv.fieldAddr fld27_1 rfl).yl ?_
    refine QOps.st rfl rfl (Yv.loadB (i := 1) lay22 rfl rfl rfl rfl).yl ?_
    refine QOps.st rfl rfl (Yv.lenS el22s rfl).yl ?_
    refine QOps.st rfl rfl (Yv.gtr rfl rfl).yl ?_
    exact QOps.nil rfl
  refine QOps.st rfl rfl (Yv.move rfl).yl ?_
  refine' QOps.or [_, _, _, _, _, _, _] _ (.tmp 35) rfl rfl rfl rfl rfl rfl (fun hg4 => ?_) ?_
  rotate_left
  · try replace hg4 := of_decide_eq_false hg4
    simp at hg4
    refine QOps.st rfl rfl (Yv.move rfl).yl ?_
    refine QOps.st rfl rfl (Yv.fieldAddr fld27_1 rfl).yl ?_
    refine QOps.st rfl rfl (Yv.loadB (i := 1) lay22 rfl rfl rfl rfl).yl ?_
    refine QOps.st rfl rfl (Yv.lenS el22s rfl).yl ?_
    refine QOps.st rfl rfl (Yv.move rfl).yl ?_
    refine QOps.st rfl rfl (Yv.sub rfl rfl (by omega)).yl ?_
    refine QOps.st rfl rfl (Yv.gtr rfl rfl).yl ?_
    exact QOps.nil rfl
  refine QOps.st rfl rfl (Yv.move rfl).yl ?_
  refine' QOps.or [_, _, _, _, _] _ (.tmp 42) rfl rfl rfl rfl rfl rfl (fun hg5 => ?_) ?_
  rotate_left
  · try replace hg5 := of_decide_eq_false hg5
    refine QOps.st rfl rfl (Yv.move rfl).yl ?_
    refine QOps.st rfl rfl (Yv.fieldAddr fld27_1 rfl).yl ?_
    refine QOps.st rfl rfl (Yv.loadB (i := 1) lay22 rfl rfl rfl rfl).yl ?_
    refine QOps.st rfl rfl (Yv.lenS el22s rfl).yl ?_
    refine QOps.st rfl rfl (Yv.eqI rfl rfl).yl ?_
    exact QOps.nil rfl
  refine QOps.nil ?_
  refine Run.cond rfl (fun hc1 => ?_) (fun hc1 => ?_)
  · try replace hc1 := of_decide_eq_true hc1
    have hn : leaveOk p l f n = false := by
          rw [Bool.eq_false_iff]; intro h; rw [leaveOk_iff] at h; obtain ⟨h1, h2, h3, h4, h5⟩ := h; rw [h1] at hc1; simp at hc1; omega
    obtain ⟨e1, e2, e3⟩ := leave_no hn
    refine Run.seq ?_
    refine Run.ops ?_
    refine SOps.st rfl rfl (Yv.buildG (pv := []) (cs := [_, _]) (fun _ => [.int .i64 0, .slice none 0 0]) .nil rfl rfl (by kernel_rfl)).yl ?_
    refine SOps.one rfl (One.buildSliceG (pv := []) (cs := []) (fun _ => []) rfl el22 .nil rfl rfl (by kernel_rfl) rfl rfl (fun b3 => ?_))
    refine SOps.one rfl (One.store (i := 1) (off := 0) (vs := [_, _]) (cs' := [_, _]) (H' := [_, _, _]) lay27 rfl rfl rfl rfl rfl rfl rfl rfl rfl rfl ?_)
    refine SOps.st rfl rfl (Yv.assign rfl).yl ?_
    refine SOps.st rfl rfl (Yv.assign rfl).yl ?_
    refine SOps.nil ?_
    refine Run.ret ?_
    refine retQ.of (.inr rfl) rfl (.cells (i := 1) rfl lay27 rfl rfl (.tmp rfl (.tmp rfl .nil))) (fun w' hw' => ?_)
    rw [e1, e2, e3, hn]
    exact retRow2_nilOwn (j := 0) hw' rfl rfl
  · try replace hc1 := of_decide_eq_false hc1
    have hy : leaveOk p l f n = true := by
          rw [leaveOk_iff]; cases hv : validConvoy p l
          · rw [hv] at hc1; simp at hc1
          · rw [hv] at hc1; simp at hc1; refine ⟨rfl, ?_⟩; omega
    have hy2 := leaveOk_iff.1 hy
    obtain ⟨a, rfl⟩ : ∃ a : Nat, f = (a : Int) := ⟨f.toNat, by omega⟩
    obtain ⟨b, rfl⟩ : ∃ b : Nat, n = (b : Int) := ⟨n.toNat, by omega⟩
    have hab : a + b ≤ l.length := by omega
    obtain ⟨e1, e2, e3⟩ := leave_yes hy
    refine Run.skip ?_
    refine Run.seq ?_
    refine Run.draws (fun H => H) (m := 13) (listed := #[false, false, false, false, false, false, false, false, false, false, false, false, false]) (by kernel_rfl) rfl rfl ?_
    refine DOps.take (listed' := #[true, false, false, false, false, false, false, false, false, false, false, false, false]) 0 rfl (by kernel_rfl) rfl (List.Sublist.refl _) rfl rfl (Yv.fieldAddr fld27_1 rfl) ?_
    refine DOps.take (listed' := #[true, true, false, false, false, false, false, false, false, false, false, false, false]) 1 rfl (by kernel_rfl) rfl (List.Sublist.refl _) rfl rfl (Yv.loadB (i := 1) lay22 rfl rfl rfl rfl) ?_
    refine DOps.take (listed' := #[true, true, true, false, false, false, false, false, false, false, false, false, false]) 2 rfl (by kernel_rfl) rfl (List.Sublist.refl _) rfl rfl (Yv.move rfl) ?_
    refine DOps.take (listed' := #[true, true, true, true, false, false, false, false, false, false, false, false, false]) 3 rfl (by kernel_rfl) rfl (List.Sublist.refl _) rfl rfl (Yv.cutTo0 a el22 rfl rfl rfl (by omega)) ?_
    refine DOps.take (listed' := #[true, true, true, true, false, true, false, false, false, false, false, false, false]) 5 rfl (by kernel_rfl) rfl (List.Sublist.refl _) rfl rfl (Yv.fieldAddr fld27_1 rfl) ?_
    refine DOps.take (listed' := #[true, true, true, true, false, true, true, false, false, false, false, false, false]) 6 rfl (by kernel_rfl) rfl (List.Sublist.refl _) rfl rfl (Yv.loadB (i := 1) lay22 rfl rfl rfl rfl) ?_
    refine DOps.take (listed' := #[true, true, true, true, false, true, true, true, false, false, false, false, false]) 7 rfl (by kernel_rfl) rfl (List.Sublist.refl _) rfl rfl (Yv.move rfl) ?_
    refine DOps.take (listed' := #[true, true, true, true, false, true, true, true, true, false, false, false, false]) 8 rfl (by kernel_rfl) rfl (List.Sublist.refl _) rfl rfl (Yv.move rfl) ?_
    refine DOps.take (listed' := #[true, true, true, true, false, true, true, true, true, true, false, false, false]) 9 rfl (by kernel_rfl) rfl (List.Sublist.refl _) rfl rfl (Yv.addN rfl rfl (by omega)) ?_
    refine DOps.take (listed' := #[true, true, true, true, false, true, true, true, true, true, true, false, false]) 10 rfl (by kernel_rfl) rfl (List.Sublist.refl _) rfl rfl (Yv.cutFrom (a + b) el22 rfl rfl rfl (by omega)) ?_
    refine DOps.only (listed' := #[true, true, true, true, true, true, true, true, true, true, true, false, false]) 4 rfl (by kernel_rfl) rfl rfl ?_
    refine One.callRow rfl callable74 (.cons rfl (.nil)) (fun w' hw' => l1OwnN_spec (by first | rfl | (simp; done) | (simp; omega)) ((Rd.cut0 intC_len (Rd.arg hs) (by omega)) w' hw') (by omega)) (fun A1 c1 => ?_)
    refine ⟨(List.Sublist.cons _ (List.Sublist.refl _)), ?_⟩
    refine DOps.only (listed' := #[true, true, true, true, true, true, true, true, true, true, true, true, false]) 11 rfl (by kernel_rfl) rfl rfl ?_
    refine One.append (enc := intC) (l := (l.take a)) (l2 := (l.drop (a + b))) (m' := (a + (l.length - (a + b)))) (i := 0) (H' := fun A c => [_, _, _]) rfl el22 zero3 rfl (by decide) rfl rfl rfl (Rd.cutF intC_len (Rd.arg hs) rfl (by omega)) (fun _ => rfl) rfl (by omega) (by omega) (fun _ _ => rfl) (fun A2 c2 => ?_)
    refine ⟨(List.Sublist.cons _ (List.Sublist.refl _)), ?_⟩
    refine DOps.take (listed' := #[true, true, true, true, true, true, true, true, true, true, true, true, true]) 12 rfl (by kernel_rfl) rfl (List.Sublist.cons _ (List.Sublist.refl _)) rfl rfl (Yv.assign rfl) ?_
    refine DOps.done (by kernel_rfl) ?_
    refine Run.seq ?_
    refine Run.draws (fun H => (H).eraseIdx 1) (m := 15) (listed := #[false, false, false, false, false, false, false, false, false, false, false, false, false, false, false]) (by kernel_rfl) rfl rfl ?_
    refine DOps.take (listed' := #[true, false, false, false, false, false, false, false, false, false, false, false, false, false, false]) 0 rfl (by kernel_rfl) rfl (List.Sublist.cons_cons _ (List.Sublist.cons _ (List.Sublist.refl _))) rfl rfl (Yv.fieldAddr fld27_0 rfl) ?_
    refine DOps.take (listed' := #[true, true, false, false, false, false, false, false, false, false, false, false, false, false, false]) 1 rfl (by kernel_rfl) rfl (List.Sublist.cons_cons _ (List.Sublist.cons _ (List.Sublist.refl _))) rfl rfl (Yv.loadB (i := 1) lay3 rfl rfl rfl rfl) ?_
    refine DOps.take (listed' := #[true, true, true, false, false, false, false, false, false, false, false, false, false, false, false]) 2 rfl (by kernel_rfl) rfl (List.Sublist.cons_cons _ (List.Sublist.cons _ (List.Sublist.refl _))) rfl rfl (Yv.move rfl) ?_
    refine DOps.take (listed' := #[true, true, true, true, false, false, false, false, false, false, false, false, false, false, false]) 3 rfl (by kernel_rfl) rfl (List.Sublist.cons_cons _ (List.Sublist.cons _ (List.Sublist.refl _))) rfl rfl (Yv.buildG (pv := [(0, _), (1, _)]) (cs := [_, _]) (fun l => match l with | [a0_0, a1_0] => [a0_0, a1_0] | _ => []) (.cons rfl (.cons rfl (.nil))) rfl rfl (by kernel_rfl)) ?_
    refine DOps.take (listed' := #[true, true, true, true, true, false, false, false, false, false, false, false, false, false, false]) 4 rfl (by kernel_rfl) rfl (List.Sublist.cons_cons _ (List.Sublist.cons _ (List.Sublist.refl _))) rfl rfl (Yv.fieldAddr fld27_1 rfl) ?_
    refine DOps.take (listed' := #[true, true, true, true, true, true, false, false, false, false, false, false, false, false, false]) 5 rfl (by kernel_rfl) rfl (List.Sublist.cons_cons _ (List.Sublist.cons _ (List.Sublist.refl _))) rfl rfl (Yv.loadB (i := 1) lay22 rfl rfl rfl rfl) ?_
    refine DOps.take (listed' := #[true, true, true, true, true, true, true, false, false, false, false, false, false, false, false]) 6 rfl (by kernel_rfl) rfl (List.Sublist.cons_cons _ (List.Sublist.cons _ (List.Sublist.refl _))) rfl rfl (Yv.move rfl) ?_
    refine DOps.take (listed' := #[true, true, true, true, true, true, true, true, false, false, false, false, false, false, false]) 7 rfl (by kernel_rfl) rfl (List.Sublist.cons_cons _ (List.Sublist.cons _ (List.Sublist.refl _))) rfl rfl (Yv.move rfl) ?_
    refine DOps.take (listed' := #[true, true, true, true, true, true, true, true, true, false, false, false, false, false, false]) 8 rfl (by kernel_rfl) rfl (List.Sublist.cons_cons _ (List.Sublist.cons _ (List.Sublist.refl _))) rfl rfl (Yv.move rfl) ?_
    refine DOps.take (listed' := #[true, true, true, true, true, true, true, true, true, true, false, false, false, false, false]) 9 rfl (by kernel_rfl) rfl (List.Sublist.cons_cons _ (List.Sublist.cons _ (List.Sublist.refl _))) rfl rfl (Yv.addN rfl rfl (by omega)) ?_
    refine DOps.take (listed' := #[true, true, true, true, true, true, true, true, true, true, true, false, false, false, false]) 10 rfl (by kernel_rfl) rfl (List.Sublist.cons_cons _ (List.Sublist.cons _ (List.Sublist.refl _))) rfl rfl (Yv.cutBoth a (a + b) el22 rfl rfl rfl rfl rfl (by omega) (by omega)) ?_
    refine DOps.only (listed' := #[true, true, true, true, true, true, true, true, true, true, true, true, false, false, false]) 11 rfl (by kernel_rfl) rfl rfl ?_
    refine One.callRow rfl callable74 (.cons rfl (.nil)) (fun w' hw' => l1OwnN_spec (by first | rfl | (simp; done) | (simp; omega)) ((Rd.cutB intC_len (Rd.arg hs) (by omega) (by omega)) w' hw') (by omega)) (fun A3 c3 => ?_)
    refine ⟨(List.Sublist.cons _ (List.Sublist.cons_cons _ (List.Sublist.cons _ (List.Sublist.refl _)))), ?_⟩
    refine DOps.only (listed' := #[true, true, true, true, true, true, true, true, true, true, true, true, true, false, false]) 12 rfl (by kernel_rfl) rfl rfl ?_
    refine One.store (i := 2) (off := 0) (vs := [_, _]) (cs' := [_, _]) (H' := [_, _, _, _]) lay27 rfl rfl rfl rfl rfl rfl rfl rfl rfl rfl ?_
    refine ⟨(List.Sublist.cons _ (List.Sublist.cons_cons _ (List.Sublist.cons _ (List.Sublist.refl _)))), ?_⟩
    refine DOps.take (listed' := #[true, true, true, true, true, true, true, true, true, true, true, true, true, true, false]) 13 rfl (by kernel_rfl) rfl (List.Sublist.cons _ (List.Sublist.cons_cons _ (List.Sublist.cons _ (List.Sublist.refl _)))) rfl rfl (Yv.assign rfl) ?_
    refine DOps.take (listed' := #[true, true, true, true, true, true, true, true, true, true, true, true, true, true, true]) 14 rfl (by kernel_rfl) rfl (List.Sublist.cons _ (List.Sublist.cons_cons _ (List.Sublist.cons _ (List.Sublist.refl _)))) rfl rfl (Yv.assign rfl) ?_
    refine DOps.done (by kernel_rfl) ?_
    refine Run.ret ?_
    refine retQ.of (.inr rfl) rfl (.cells (i := 2) rfl lay27 rfl rfl (.tmp rfl (.tmp rfl .nil))) (fun w' hw' => ?_)
    rw [e1, e2, e3, hy, restLen hab, goneLen hab]
    exact retRow2_own (i := 1) (j := 0) hw' rfl rfl rfl rfl

theorem FnExactLeaveBarges_spec {w : World} {A : Option Addr} {c : Nat} {p f n : Int} {l : List Int} (hs : Sl w 1 A l.length c (l.flatMap intC)) (hb : 8 * l.length ≤ 281474976710656) :
    Calls Try.prog 7 #[.agg #[.int .i64 p, .slice A l.length c], .int .i64 f, .int .i64 n] w (RetB w (.bool true)) := by
  have hgl := leaveRest_len (p := p) (l := l) (f := f) (n := n)
  have hgl2 := leaveGone_len (p := p) (l := l) (f := f) (n := n)
  refine calls_of_run (vs := [_, _, _]) (L := [(0, _), (1, _), (2, _)]) (n := 143) (F := []) (H := []) Try.func7 rfl rfl rfl rfl (HOk.start _) ?_
  refine Run.seq ?_
  refine Run.ops ?_
  refine SOps.one rfl (One.box (cs := [_, _]) rfl rfl rfl (fun b1 => ?_))
  refine SOps.st rfl rfl (Yv.assign rfl).yl ?_
  refine SOps.nil ?_
  refine Run.seq ?_
  refine Run.quiet (by intro h; cases h) ?_
  refine QOps.st rfl rfl (Yv.assign rfl).yl ?_
  refine QOps.nil ?_
  refine Run.seq ?_
  refine Run.quiet (by intro h; cases h) ?_
  refine QOps.st rfl rfl (Yv.loadBs (i := 0) lay24 rfl rfl rfl rfl).yl ?_
  refine QOps.st rfl rfl (Yv.move rfl).yl ?_
  refine QOps.st rfl rfl (Yl.call callable15 (.cons rfl (.cons rfl (.nil))) (fun w' hw' => szConvoy_spec (by omega) (by omega) (by omega))) ?_
  refine QOps.st rfl rfl (Yv.assign rfl).yl ?_
  refine QOps.nil ?_
  refine Run.seq ?_
  refine Run.seq ?_
  refine Run.quiet (by intro h; cases h) ?_
  refine QOps.st rfl rfl (Yv.move rfl).yl ?_
  refine QOps.st rfl rfl (Yv.lss rfl rfl).yl ?_
  refine QOps.nil ?_
  refine Run.cond rfl (fun hc1 => ?_) (fun hc1 => ?_)
  · try replace hc1 := of_decide_eq_true hc1
    refine Run.seq ?_
    refine Run.quiet (by intro h; cases h) ?_
    refine QOps.st rfl rfl (Yv.assign rfl).yl ?_
    refine QOps.nil ?_
    refine Run.ret ?_
    refine retQ.of (.inr rfl) rfl (.tmp rfl .nil) (fun w' hw' => ?_)
    refine ⟨?_, hw'.bel.below⟩
    exact rfl
  · try replace hc1 := of_decide_eq_false hc1
    have hn1 : l.length ≤ 1048576 := by split at hc1 <;> omega
    refine Run.skip ?_
    refine Run.seq ?_
    refine Run.ops ?_
    refine SOps.st rfl rfl (Yv.loadBs (i := 0) lay24 rfl rfl rfl rfl).yl ?_
    refine SOps.one rfl (One.callRow rfl callable17 (.cons rfl (.nil)) (fun w' hw' => toConvoy_spec ((Rd.arg hs) w' hw') (by omega)) (fun A1 c1 => ?_))
    refine SOps.st rfl rfl (Yv.move rfl).yl ?_
    refine SOps.st rfl rfl (Yv.move rfl).yl ?_
    refine SOps.one rfl (One.callRow2 rfl callable40 (.cons rfl (.cons rfl (.cons rfl (.nil)))) (fun w' hw' => sLeaveBarges_spec ((Rd.row (i := 0) rfl) w' hw') (by omega)) (fun A2 c2 A3 c3 => ?_))
    refine SOps.st rfl rfl (Yv.move rfl).yl ?_
    refine SOps.st rfl rfl (Yv.extract rfl rfl).yl ?_
    refine SOps.st rfl rfl (Yv.extract rfl rfl).yl ?_
    refine SOps.st rfl rfl (Yv.extract rfl rfl).yl ?_
    refine SOps.one rfl (One.alloc rfl zero27 (fun b2 => ?_))
    refine SOps.one rfl (One.store (i := 0) (off := 0) (vs := [_, _]) (cs' := [_, _]) (H' := [_, _, _, _, _]) lay27 rfl rfl rfl rfl rfl rfl rfl rfl rfl rfl ?_)
    refine SOps.st rfl rfl (Yv.assign rfl).yl ?_
    refine SOps.st rfl rfl (Yv.assign rfl).yl ?_
    refine SOps.nil ?_
    refine Run.seq ?_
    refine Run.ops ?_
    refine SOps.st rfl rfl (Yv.loadBs (i := 4) lay24 rfl rfl rfl rfl).yl ?_
    refine SOps.one rfl (One.callRow rfl callable17 (.cons rfl (.nil)) (fun w' hw' => toConvoy_spec ((Rd.arg hs) w' hw') (by omega)) (fun A4 c4 => ?_))
    refine SOps.one rfl (One.alloc rfl zero27 (fun b3 => ?_))
    refine SOps.one rfl (One.store (i := 0) (off := 0) (vs := [_, _]) (cs' := [_, _]) (H' := [_, _, _, _, _, _, _]) lay27 rfl rfl rfl rfl rfl rfl rfl rfl rfl rfl ?_)
    refine SOps.nil ?_
    refine Run.seq ?_
    refine Run.ops ?_
    refine SOps.st rfl rfl (Yv.loadBs (i := 0) lay27 rfl rfl rfl rfl).yl ?_
    refine SOps.st rfl rfl (Yv.move rfl).yl ?_
    refine SOps.st rfl rfl (Yv.move rfl).yl ?_
    refine SOps.one rfl (One.callRow2 rfl callable41 (.cons rfl (.cons rfl (.cons rfl (.nil)))) (fun w' hw' => LeaveBarges_spec ((Rd.row (i := 1) rfl) w' hw') (by omega)) (fun A5 c5 A6 c6 => ?_))
    refine SOps.st rfl rfl (Yv.move rfl).yl ?_
    refine SOps.st rfl rfl (Yv.extract rfl rfl).yl ?_
    refine SOps.st rfl rfl (Yv.extract rfl rfl).yl ?_
    refine SOps.st rfl rfl (Yv.extract rfl rfl).yl ?_
    refine SOps.one rfl (One.alloc rfl zero27 (fun b4 => ?_))
    refine SOps.one rfl (One.store (i := 0) (off := 0) (vs := [_, _]) (cs' := [_, _]) (H' := [_, _, _, _, _, _, _, _, _, _]) lay27 rfl rfl rfl rfl rfl rfl rfl rfl rfl rfl ?_)
    refine SOps.st rfl rfl (Yv.assign rfl).yl ?_
    refine SOps.st rfl rfl (Yv.assign rfl).yl ?_
    refine SOps.nil ?_
    refine Run.seq ?_
    refine Run.seq ?_
    refine Run.quiet (by intro h; cases h) ?_
    refine QOps.st rfl rfl (Yv.loadBs (i := 0) lay27 rfl rfl rfl rfl).yl ?_
    refine QOps.st rfl rfl (Yv.loadBs (i := 5) lay27 rfl rfl rfl rfl).yl ?_
    refine QOps.st rfl rfl (Yl.call callable19 (.cons rfl (.cons rfl (.nil))) (fun w' hw' => eqConvoy_spec ((Rd.row (i := 1) rfl) w' hw') ((Rd.row (i := 6) rfl) w' hw'))) ?_
    refine QOps.st rfl rfl (Yv.not rfl).yl ?_
    refine QOps.st rfl rfl (Yv.move rfl).yl ?_
    refine' QOps.or [_, _, _, _] _ (.tmp 53) rfl rfl rfl rfl rfl rfl (fun hg1 => ?_) ?_
    rotate_left
    · try replace hg1 := of_decide_eq_false hg1
      refine QOps.st rfl rfl (Yv.move rfl).yl ?_
      refine QOps.st rfl rfl (Yv.move rfl).yl ?_
      refine QOps.st rfl rfl (Yl.call callable42 (.cons rfl (.cons rfl (.nil))) (fun w' hw' => eqIntS_spec ((Rd.row (i := 2) rfl) w' hw') ((Rd.row (i := 7) rfl) w' hw'))) ?_
      refine QOps.st rfl rfl (Yv.not rfl).yl ?_
      exact QOps.nil rfl
    refine QOps.st rfl rfl (Yv.move rfl).yl ?_
    refine' QOps.or [_, _, _] _ (.tmp 58) rfl rfl rfl rfl rfl rfl (fun hg2 => ?_) ?_
    rotate_left
    · try replace hg2 := of_decide_eq_false hg2
      refine QOps.st rfl rfl (Yv.move rfl).yl ?_
      refine QOps.st rfl rfl (Yv.move rfl).yl ?_
      refine QOps.st rfl rfl (Yv.neB bool4 rfl rfl).yl ?_
      exact QOps.nil rfl
    refine QOps.nil ?_
    refine Run.cond rfl (fun hc2 => ?_) (fun hc2 => ?_)
    · exfalso
      first | (simp at hc2; done) | (simp at hc2; omega) | omega
    · try replace hc2 := of_decide_eq_false hc2
      refine Run.skip ?_
      refine Run.seq ?_
      refine Run.seq ?_
      refine Run.draws (fun H => H) (m := 5) (listed := #[false, false, false, false, false]) (by kernel_rfl) rfl rfl ?_
      refine DOps.take (listed' := #[true, false, false, false, false]) 0 rfl (by kernel_rfl) rfl (List.Sublist.refl _) rfl rfl (Yv.loadBs (i := 3) lay27 rfl rfl rfl rfl) ?_
      refine DOps.take (listed' := #[true, true, false, false, false]) 1 rfl (by kernel_rfl) rfl (List.Sublist.refl _) rfl rfl (Yv.loadBs (i := 9) lay24 rfl rfl rfl rfl) ?_
      refine DOps.only (listed' := #[true, true, true, false, false]) 2 rfl (by kernel_rfl) rfl rfl ?_
      refine One.callRow rfl callable17 (.cons rfl (.nil)) (fun w' hw' => toConvoy_spec ((Rd.arg hs) w' hw') (by omega)) (fun A7 c7 => ?_)
      refine ⟨(List.Sublist.cons _ (List.Sublist.refl _)), ?_⟩
      refine DOps.only (listed' := #[true, true, true, true, false]) 3 rfl (by kernel_rfl) rfl rfl ?_
      refine One.st rfl (Yl.call callable19 (.cons rfl (.cons rfl (.nil))) (fun w' hw' => eqConvoy_spec ((Rd.row (i := 5) rfl) w' hw') ((Rd.row (i := 0) rfl) w' hw'))) ?_
      refine ⟨(List.Sublist.cons _ (List.Sublist.refl _)), ?_⟩
      refine DOps.take (listed' := #[true, true, true, true, true]) 4 rfl (by kernel_rfl) rfl (List.Sublist.cons _ (List.Sublist.refl _)) rfl rfl (Yv.not rfl) ?_
      refine DOps.done (by kernel_rfl) ?_
      refine Run.cond rfl (fun hc3 => ?_) (fun hc3 => ?_)
      · exfalso
        first | (simp at hc3; done) | (simp at hc3; omega) | omega
      · try replace hc3 := of_decide_eq_false hc3
        refine Run.skip ?_
        refine Run.seq ?_
        refine Run.quiet (by intro h; cases h) ?_
        refine QOps.st rfl rfl (Yv.assign rfl).yl ?_
        refine QOps.nil ?_
        refine Run.seq ?_
        refine Run.ops ?_
        refine SOps.st rfl rfl (Yv.loadBs (i := 4) lay27 rfl rfl rfl rfl).yl ?_
        refine SOps.st rfl rfl (Yv.move rfl).yl ?_
        refine SOps.one rfl (One.callMut (i := 5) (H' := [_, _, _, _, _, _, _, _, _, _, _]) rfl callable38 (.cons rfl (.cons rfl (.nil))) rfl (fun w' hw' => markConvoy_spec (hw'.ent _ (List.mem_of_getElem? (i := 5) rfl)) (by omega) (by omega) (by omega)) rfl ?_)
        refine SOps.st rfl rfl (Yv.assign rfl).yl ?_
        refine SOps.nil ?_
        refine Run.seq ?_
        refine Run.seq ?_
        refine Run.quiet (by intro h; cases h) ?_
        refine QOps.st rfl rfl (Yv.move rfl).yl ?_
        refine QOps.st rfl rfl (Yv.lss rfl rfl).yl ?_
        refine QOps.st rfl rfl (Yv.move rfl).yl ?_
        refine' QOps.or [_, _, _, _] _ (.tmp 74) rfl rfl rfl rfl rfl rfl (fun hg3 => ?_) ?_
        rotate_left
        · try replace hg3 := of_decide_eq_false hg3
          refine QOps.st rfl rfl (Yv.loadBs (i := 1) lay27 rfl rfl rfl rfl).yl ?_
          refine QOps.st rfl rfl (Yv.loadBs (i := 6) lay27 rfl rfl rfl rfl).yl ?_
          refine QOps.st rfl rfl (Yl.call callable19 (.cons rfl (.cons rfl (.nil))) (fun w' hw' => eqConvoy_spec ((Rd.row (i := 2) rfl) w' hw') ((Rd.row (i := 7) rfl) w' hw'))) ?_
          refine QOps.st rfl rfl (Yv.not rfl).yl ?_
          exact QOps.nil rfl
        refine QOps.st rfl rfl (Yv.move rfl).yl ?_
        refine' QOps.or [_, _, _, _] _ (.tmp 80) rfl rfl rfl rfl rfl rfl (fun hg4 => ?_) ?_
        rotate_left
        · try replace hg4 := of_decide_eq_false hg4
          refine QOps.st rfl rfl (Yv.move rfl).yl ?_
          refine QOps.st rfl rfl (Yv.move rfl).yl ?_
          refine QOps.st rfl rfl (Yl.call callable42 (.cons rfl (.cons rfl (.nil))) (fun w' hw' => eqIntS_spec ((Rd.row (i := 3) rfl) w' hw') ((Rd.row (i := 8) rfl) w' hw'))) ?_
          refine QOps.st rfl rfl (Yv.not rfl).yl ?_
          exact QOps.nil rfl
        refine QOps.st rfl rfl (Yv.move rfl).yl ?_
        refine' QOps.or [_, _, _] _ (.tmp 85) rfl rfl rfl rfl rfl rfl (fun hg5 => ?_) ?_
        rotate_left
        · try replace hg5 := of_decide_eq_false hg5
          refine QOps.st rfl rfl (Yv.move rfl).yl ?_
          refine QOps.st rfl rfl (Yv.move rfl).yl ?_
          refine QOps.st rfl rfl (Yv.neB bool4 rfl rfl).yl ?_
          exact QOps.nil rfl
        refine QOps.nil ?_
        refine Run.cond rfl (fun hc4 => ?_) (fun hc4 => ?_)
        · exfalso
          first | (simp at hc4; done) | (simp at hc4; omega) | omega
        · try replace hc4 := of_decide_eq_false hc4
          refine Run.skip ?_
          refine Run.seq ?_
          refine Run.quiet (by intro h; cases h) ?_
          refine QOps.st rfl rfl (Yv.assign rfl).yl ?_
          refine QOps.nil ?_
          refine Run.seq ?_
          refine Run.ops ?_
          refine SOps.st rfl rfl (Yv.loadBs (i := 1) lay27 rfl rfl rfl rfl).yl ?_
          refine SOps.st rfl rfl (Yv.move rfl).yl ?_
          refine SOps.one rfl (One.callMut (i := 2) (H' := [_, _, _, _, _, _, _, _, _, _, _]) rfl callable38 (.cons rfl (.cons rfl (.nil))) rfl (fun w' hw' => markConvoy_spec (hw'.ent _ (List.mem_of_getElem? (i := 2) rfl)) (by omega) (by omega) (by omega)) rfl ?_)
          refine SOps.st rfl rfl (Yv.assign rfl).yl ?_
          refine SOps.nil ?_
          refine Run.seq ?_
          refine Run.ops ?_
          refine SOps.st rfl rfl (Yv.move rfl).yl ?_
          refine SOps.st rfl rfl (Yv.move rfl).yl ?_
          refine SOps.one rfl (One.callMut (i := 3) (H' := [_, _, _, _, _, _, _, _, _, _, _]) rfl callable43 (.cons rfl (.cons rfl (.nil))) rfl (fun w' hw' => markIntS_spec (hw'.ent _ (List.mem_of_getElem? (i := 3) rfl)) (by omega) (by omega) (by omega)) rfl ?_)
          refine SOps.st rfl rfl (Yv.assign rfl).yl ?_
          refine SOps.nil ?_
          refine Run.seq ?_
          refine Run.quiet (by intro h; cases h) ?_
          refine QOps.st rfl rfl (Yv.assign rfl).yl ?_
          refine QOps.nil ?_
          refine Run.seq ?_
          refine Run.quiet (by intro h; cases h) ?_
          refine QOps.st rfl rfl (Yv.loadBs (i := 1) lay27 rfl rfl rfl rfl).yl ?_
          refine QOps.st rfl rfl (Yv.move rfl).yl ?_
          refine QOps.st rfl rfl (Yl.call callable39 (.cons rfl (.cons rfl (.nil))) (fun w' hw' => heldConvoy_spec ((Rd.row (i := 2) rfl) w' hw') (by omega) (by omega) (by omega))) ?_
          refine QOps.st rfl rfl (Yv.assign rfl).yl ?_
          refine QOps.nil ?_
          refine Run.seq ?_
          refine Run.seq ?_
          refine Run.quiet (by intro h; cases h) ?_
          refine QOps.st rfl rfl (Yv.move rfl).yl ?_
          refine QOps.st rfl rfl (Yv.lss rfl rfl).yl ?_
          refine QOps.nil ?_
          refine Run.cond rfl (fun hc5 => ?_) (fun hc5 => ?_)
          · exfalso
            first | (simp at hc5; done) | (simp at hc5; omega) | omega
          · try replace hc5 := of_decide_eq_false hc5
            refine Run.skip ?_
            refine Run.seq ?_
            refine Run.quiet (by intro h; cases h) ?_
            refine QOps.st rfl rfl (Yv.move rfl).yl ?_
            refine QOps.st rfl rfl (Yv.move rfl).yl ?_
            refine QOps.st rfl rfl (Yl.call callable44 (.cons rfl (.cons rfl (.nil))) (fun w' hw' => heldIntS_spec ((Rd.row (i := 3) rfl) w' hw') (by omega) (by omega) (by omega))) ?_
            refine QOps.st rfl rfl (Yv.assign rfl).yl ?_
            refine QOps.nil ?_
            refine Run.seq ?_
            refine Run.seq ?_
            refine Run.quiet (by intro h; cases h) ?_
            refine QOps.st rfl rfl (Yv.move rfl).yl ?_
            refine QOps.st rfl rfl (Yv.lss rfl rfl).yl ?_
            refine QOps.nil ?_
            refine Run.cond rfl (fun hc6 => ?_) (fun hc6 => ?_)
            · exfalso
              first | (simp at hc6; done) | (simp at hc6; omega) | omega
            · try replace hc6 := of_decide_eq_false hc6
              refine Run.skip ?_
              refine Run.seq ?_
              refine Run.seq ?_
              refine Run.quiet (by intro h; cases h) ?_
              refine QOps.st rfl rfl (Yv.move rfl).yl ?_
              refine QOps.st rfl rfl (Yv.move rfl).yl ?_
              refine QOps.st rfl rfl (Yv.neI rfl rfl).yl ?_
              refine QOps.nil ?_
              refine Run.cond rfl (fun hc7 => ?_) (fun hc7 => ?_)
              · exfalso
                first | (simp at hc7; done) | (simp at hc7; omega) | omega
              · try replace hc7 := of_decide_eq_false hc7
                refine Run.skip ?_
                refine Run.seq ?_
                refine Run.ops ?_
                refine SOps.st rfl rfl (Yv.loadBs (i := 10) lay24 rfl rfl rfl rfl).yl ?_
                refine SOps.one rfl (One.callRow rfl callable17 (.cons rfl (.nil)) (fun w' hw' => toConvoy_spec ((Rd.arg hs) w' hw') (by omega)) (fun A8 c8 => ?_))
                refine SOps.st rfl rfl (Yv.move rfl).yl ?_
                refine SOps.st rfl rfl (Yv.move rfl).yl ?_
                refine SOps.one rfl (One.callRow2 rfl callable41 (.cons rfl (.cons rfl (.cons rfl (.nil)))) (fun w' hw' => LeaveBarges_spec ((Rd.row (i := 0) rfl) w' hw') (by omega)) (fun A9 c9 A10 c10 => ?_))
                refine SOps.st rfl rfl (Yv.move rfl).yl ?_
                refine SOps.st rfl rfl (Yv.extract rfl rfl).yl ?_
                refine SOps.st rfl rfl (Yv.extract rfl rfl).yl ?_
                refine SOps.st rfl rfl (Yv.extract rfl rfl).yl ?_
                refine SOps.one rfl (One.alloc rfl zero27 (fun b5 => ?_))
                refine SOps.one rfl (One.store (i := 0) (off := 0) (vs := [_, _]) (cs' := [_, _]) (H' := [_, _, _, _, _, _, _, _, _, _, _, _, _, _, _]) lay27 rfl rfl rfl rfl rfl rfl rfl rfl rfl rfl ?_)
                refine SOps.st rfl rfl (Yv.assign rfl).yl ?_
                refine SOps.st rfl rfl (Yv.assign rfl).yl ?_
                refine SOps.nil ?_
                refine Run.seq ?_
                refine Run.seq ?_
                refine Run.quiet (by intro h; cases h) ?_
                refine QOps.st rfl rfl (Yv.loadBs (i := 0) lay27 rfl rfl rfl rfl).yl ?_
                refine QOps.st rfl rfl (Yv.loadBs (i := 10) lay27 rfl rfl rfl rfl).yl ?_
                refine QOps.st rfl rfl (Yl.call callable19 (.cons rfl (.cons rfl (.nil))) (fun w' hw' => eqConvoy_spec ((Rd.row (i := 1) rfl) w' hw') ((Rd.row (i := 11) rfl) w' hw'))) ?_
                refine QOps.st rfl rfl (Yv.not rfl).yl ?_
                refine QOps.st rfl rfl (Yv.move rfl).yl ?_
                refine' QOps.or [_, _, _, _] _ (.tmp 123) rfl rfl rfl rfl rfl rfl (fun hg6 => ?_) ?_
                rotate_left
                · try replace hg6 := of_decide_eq_false hg6
                  refine QOps.st rfl rfl (Yv.move rfl).yl ?_
                  refine QOps.st rfl rfl (Yv.move rfl).yl ?_
                  refine QOps.st rfl rfl (Yl.call callable42 (.cons rfl (.cons rfl (.nil))) (fun w' hw' => eqIntS_spec ((Rd.row (i := 2) rfl) w' hw') ((Rd.row (i := 12) rfl) w' hw'))) ?_
                  refine QOps.st rfl rfl (Yv.not rfl).yl ?_
                  exact QOps.nil rfl
                refine QOps.st rfl rfl (Yv.move rfl).yl ?_
                refine' QOps.or [_, _, _] _ (.tmp 128) rfl rfl rfl rfl rfl rfl (fun hg7 => ?_) ?_
                rotate_left
                · try replace hg7 := of_decide_eq_false hg7
                  refine QOps.st rfl rfl (Yv.move rfl).yl ?_
                  refine QOps.st rfl rfl (Yv.move rfl).yl ?_
                  refine QOps.st rfl rfl (Yv.neB bool4 rfl rfl).yl ?_
                  exact QOps.nil rfl
                refine QOps.nil ?_
                refine Run.cond rfl (fun hc8 => ?_) (fun hc8 => ?_)
                · exfalso
                  first | (simp at hc8; done) | (simp at hc8; omega) | omega
                · try replace hc8 := of_decide_eq_false hc8
                  refine Run.skip ?_
                  refine Run.seq ?_
                  refine Run.quiet (by intro h; cases h) ?_
                  refine QOps.st rfl rfl (Yv.assign rfl).yl ?_
                  refine QOps.nil ?_
                  refine Run.seq ?_
                  refine Run.quiet (by intro h; cases h) ?_
                  refine QOps.st rfl rfl (Yv.loadBs (i := 5) lay27 rfl rfl rfl rfl).yl ?_
                  refine QOps.st rfl rfl (Yv.move rfl).yl ?_
                  refine QOps.st rfl rfl (Yl.call callable39 (.cons rfl (.cons rfl (.nil))) (fun w' hw' => heldConvoy_spec ((Rd.row (i := 6) rfl) w' hw') (by omega) (by omega) (by omega))) ?_
                  refine QOps.st rfl rfl (Yv.assign rfl).yl ?_
                  refine QOps.nil ?_
                  refine Run.seq ?_
                  refine Run.seq ?_
                  refine Run.quiet (by intro h; cases h) ?_
                  refine QOps.st rfl rfl (Yv.move rfl).yl ?_
                  refine QOps.st rfl rfl (Yv.lss rfl rfl).yl ?_
                  refine QOps.nil ?_
                  refine Run.cond rfl (fun hc9 => ?_) (fun hc9 => ?_)
                  · exfalso
                    first | (simp at hc9; done) | (simp at hc9; omega) | omega
                  · try replace hc9 := of_decide_eq_false hc9
                    refine Run.skip ?_
                    refine Run.seq ?_
                    refine Run.quiet (by intro h; cases h) ?_
                    refine QOps.st rfl rfl (Yv.move rfl).yl ?_
                    refine QOps.st rfl rfl (Yv.move rfl).yl ?_
                    refine QOps.st rfl rfl (Yl.call callable44 (.cons rfl (.cons rfl (.nil))) (fun w' hw' => heldIntS_spec ((Rd.row (i := 7) rfl) w' hw') (by omega) (by omega) (by omega))) ?_
                    refine QOps.st rfl rfl (Yv.assign rfl).yl ?_
                    refine QOps.nil ?_
                    refine Run.seq ?_
                    refine Run.seq ?_
                    refine Run.quiet (by intro h; cases h) ?_
                    refine QOps.st rfl rfl (Yv.move rfl).yl ?_
                    refine QOps.st rfl rfl (Yv.lss rfl rfl).yl ?_
                    refine QOps.nil ?_
                    refine Run.cond rfl (fun hc10 => ?_) (fun hc10 => ?_)
                    · exfalso
                      first | (simp at hc10; done) | (simp at hc10; omega) | omega
                    · try replace hc10 := of_decide_eq_false hc10
                      refine Run.skip ?_
                      refine Run.seq ?_
                      refine Run.seq ?_
                      refine Run.quiet (by intro h; cases h) ?_
                      refine QOps.st rfl rfl (Yv.move rfl).yl ?_
                      refine QOps.st rfl rfl (Yv.move rfl).yl ?_
                      refine QOps.st rfl rfl (Yv.neI rfl rfl).yl ?_
                      refine QOps.nil ?_
                      refine Run.cond rfl (fun hc11 => ?_) (fun hc11 => ?_)
                      · exfalso
                        first | (simp at hc11; done) | (simp at hc11; omega) | omega
                      · try replace hc11 := of_decide_eq_false hc11
                        refine Run.skip ?_
                        refine Run.seq ?_
                        refine Run.quiet (by intro h; cases h) ?_
                        refine QOps.st rfl rfl (Yv.assign rfl).yl ?_
                        refine QOps.nil ?_
                        refine Run.ret ?_
                        refine retQ.of (.inr rfl) rfl (.tmp rfl .nil) (fun w' hw' => ?_)
                        refine ⟨?_, hw'.bel.below⟩
                        exact rfl
end Go.Proofs.Ytfpglglolhlegaa
