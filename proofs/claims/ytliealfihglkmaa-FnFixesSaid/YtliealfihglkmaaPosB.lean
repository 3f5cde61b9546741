/- Fixes: the law of fixes. Conditions: none. -/
import Derived.Test.YtliealfihglkmaaPosA
namespace Go.Proofs.Ytliealfihglkmaa
open Go.RowKit
set_option maxRecDepth 100000
theorem DrawAreFixes_spec {w : World} {A : Option Addr} {c : Nat} {xs : List UInt8} (hs : Sl w 1 A xs.length c (xs.flatMap byteC)) :
    Calls Try.prog 74 #[.slice A xs.length c] w (RetER w 49 3 Fix.enc (fun (x : List Fix) => x) (fun x v => v) (fun x => x.length ≤ 20)) := by
  refine calls_of_run (vs := [_]) (L := [(0, _)]) (n := 9) (F := []) (H := []) Try.func74 rfl rfl rfl rfl (HOk.start _) ?_
  refine Run.seq ?_
  refine Run.quiet (by intro h; cases h) ?_
  refine QOps.st rfl rfl (Yv.assign rfl).yl ?_
  refine QOps.nil ?_
  refine Run.seq ?_
  refine Run.ops ?_
  refine SOps.st rfl rfl (Yv.move rfl).yl ?_
  refine SOps.st rfl rfl (Yv.buildG (pv := [(0, _)]) (cs := [_, _, _]) (fun l => match l with | [a0_0] => [a0_0, .int .i64 0, .int .u64 0] | _ => []) (.cons rfl (.nil)) rfl rfl (by kernel_rfl)).yl ?_
  refine SOps.one rfl (One.box (cs := [_, _, _]) rfl rfl rfl (fun b1 => ?_))
  refine SOps.st rfl rfl (Yv.assign rfl).yl ?_
  refine SOps.nil ?_
  refine Run.seq ?_
  refine Run.ops ?_
  refine SOps.st rfl rfl (Yv.move rfl).yl ?_
  refine SOps.one rfl (One.callCR (i := 0) (H' := fun _ _ => [_]) rfl callable71 (.cons rfl (.nil)) rfl (fun w' hw' => fixes_spec (Cur.own hs (i := 0) rfl hw') (by omega) (by omega)) (fun _ _ => rfl) (fun x1 Aq1 cq1 at1 sd1 hx1 ha1 hb1 => ?_))
  refine SOps.st rfl rfl (Yv.assign rfl).yl ?_
  refine SOps.nil ?_
  refine Run.ret ?_
  refine retQ.of (.inr rfl) rfl (.tmp rfl .nil) (fun w' hw' => ?_)
  exact retER_of (x1) (by first | rfl | simp) rfl (by omega) hw'.bel.below (hw'.ent _ (List.mem_of_getElem? (i := 0) rfl)) (fun b hb => (hw'.own _ (List.mem_of_getElem? (i := 0) rfl) b hb).elim id (by simp))

theorem DrawAreConsistent_spec {w : World} {A : Option Addr} {c : Nat} {xs : List UInt8} (hs : Sl w 1 A xs.length c (xs.flatMap byteC)) :
    Calls Try.prog 46 #[.slice A xs.length c] w (RetER w 49 3 Fix.enc (fun (x : List Fix × Int) => x.1) (fun x v => .tuple #[v, .int .i64 x.2]) (fun x => x.1.length ≤ 20)) := by
  refine calls_of_run (vs := [_]) (L := [(0, _)]) (n := 12) (F := []) (H := []) Try.func46 rfl rfl rfl rfl (HOk.start _) ?_
  refine Run.seq ?_
  refine Run.quiet (by intro h; cases h) ?_
  refine QOps.st rfl rfl (Yv.assign rfl).yl ?_
  refine QOps.st rfl rfl (Yv.assign rfl).yl ?_
  refine QOps.nil ?_
  refine Run.seq ?_
  refine Run.ops ?_
  refine SOps.st rfl rfl (Yv.move rfl).yl ?_
  refine SOps.st rfl rfl (Yv.buildG (pv := [(0, _)]) (cs := [_, _, _]) (fun l => match l with | [a0_0] => [a0_0, .int .i64 0, .int .u64 0] | _ => []) (.cons rfl (.nil)) rfl rfl (by kernel_rfl)).yl ?_
  refine SOps.one rfl (One.box (cs := [_, _, _]) rfl rfl rfl (fun b1 => ?_))
  refine SOps.st rfl rfl (Yv.assign rfl).yl ?_
  refine SOps.nil ?_
  refine Run.seq ?_
  refine Run.ops ?_
  refine SOps.st rfl rfl (Yv.move rfl).yl ?_
  refine SOps.one rfl (One.callCR (i := 0) (H' := fun _ _ => [_]) rfl callable71 (.cons rfl (.nil)) rfl (fun w' hw' => fixes_spec (Cur.own hs (i := 0) rfl hw') (by omega) (by omega)) (fun _ _ => rfl) (fun x1 Aq1 cq1 at1 sd1 hx1 ha1 hb1 => ?_))
  refine SOps.st rfl rfl (Yv.move rfl).yl ?_
  refine SOps.one rfl (One.callC (i := 1) (H' := fun _ _ => [_, _]) rfl callable72 (.cons rfl (.nil)) rfl (fun w' hw' => pace_spec (Cur.own hs (i := 1) rfl hw') (by omega) (by omega)) (fun _ _ => rfl) (fun x2 at2 sd2 _ ha2 hb2 => ?_))
  refine SOps.st rfl rfl (Yv.assign rfl).yl ?_
  refine SOps.st rfl rfl (Yv.assign rfl).yl ?_
  refine SOps.nil ?_
  refine Run.ret ?_
  refine retQ.of (.inr rfl) rfl (.tmp rfl (.tmp rfl .nil)) (fun w' hw' => ?_)
  exact retER_of ((x1, x2)) (by first | rfl | simp) rfl (by omega) hw'.bel.below (hw'.ent _ (List.mem_of_getElem? (i := 0) rfl)) (fun b hb => (hw'.own _ (List.mem_of_getElem? (i := 0) rfl) b hb).elim id (by simp))

theorem DrawSlowestPace_spec {w : World} {A : Option Addr} {c : Nat} {xs : List UInt8} (hs : Sl w 1 A xs.length c (xs.flatMap byteC)) :
    Calls Try.prog 47 #[.slice A xs.length c] w (RetER w 49 3 Fix.enc (fun (x : List Fix) => x) (fun x v => v) (fun x => x.length ≤ 20)) := by
  refine calls_of_run (vs := [_]) (L := [(0, _)]) (n := 5) (F := []) (H := []) Try.func47 rfl rfl rfl rfl (HOk.start _) ?_
  refine Run.seq ?_
  refine Run.quiet (by intro h; cases h) ?_
  refine QOps.st rfl rfl (Yv.assign rfl).yl ?_
  refine QOps.nil ?_
  refine Run.seq ?_
  refine Run.ops ?_
  refine SOps.st rfl rfl (Yv.move rfl).yl ?_
  refine SOps.one rfl (One.callER rfl callable74 (.cons rfl (.nil)) (fun w' hw' => DrawAreFixes_spec ((Rd.arg hs) w' hw')) ?_)
  rintro ya1 Aq1 cq1 hx1
  try dsimp only at *
  refine SOps.st rfl rfl (Yv.assign rfl).yl ?_
  refine SOps.nil ?_
  refine Run.ret ?_
  refine retQ.of (.inr rfl) rfl (.tmp rfl .nil) (fun w' hw' => ?_)
  exact retER_of (ya1) (by first | rfl | simp) rfl (by omega) hw'.bel.below (hw'.ent _ (List.mem_of_getElem? (i := 0) rfl)) (fun b hb => (hw'.own _ (List.mem_of_getElem? (i := 0) rfl) b hb).elim id (by simp))

theorem DrawOddFix_spec {w : World} {A : Option Addr} {c : Nat} {xs : List UInt8} (hs : Sl w 1 A xs.length c (xs.flatMap byteC)) :
    Calls Try.prog 48 #[.slice A xs.length c] w (RetER w 49 3 Fix.enc (fun (x : List Fix × Int) => x.1) (fun x v => .tuple #[v, .int .i64 x.2]) (fun x => x.1.length ≤ 20)) := by
  refine calls_of_run (vs := [_]) (L := [(0, _)]) (n := 8) (F := []) (H := []) Try.func48 rfl rfl rfl rfl (HOk.start _) ?_
  refine Run.seq ?_
  refine Run.quiet (by intro h; cases h) ?_
  refine QOps.st rfl rfl (Yv.assign rfl).yl ?_
  refine QOps.st rfl rfl (Yv.assign rfl).yl ?_
  refine QOps.nil ?_
  refine Run.seq ?_
  refine Run.ops ?_
  refine SOps.st rfl rfl (Yv.move rfl).yl ?_
  refine SOps.one rfl (One.callER rfl callable46 (.cons rfl (.nil)) (fun w' hw' => DrawAreConsistent_spec ((Rd.arg hs) w' hw')) ?_)
  rintro ⟨ya1, yb1⟩ Aq1 cq1 hx1
  try dsimp only at *
  refine SOps.st rfl rfl (Yv.extract rfl rfl).yl ?_
  refine SOps.st rfl rfl (Yv.extract rfl rfl).yl ?_
  refine SOps.st rfl rfl (Yv.assign rfl).yl ?_
  refine SOps.st rfl rfl (Yv.assign rfl).yl ?_
  refine SOps.nil ?_
  refine Run.ret ?_
  refine retQ.of (.inr rfl) rfl (.tmp rfl (.tmp rfl .nil)) (fun w' hw' => ?_)
  exact retER_of ((ya1, yb1)) (by first | rfl | simp) rfl (by omega) hw'.bel.below (hw'.ent _ (List.mem_of_getElem? (i := 0) rfl)) (fun b hb => (hw'.own _ (List.mem_of_getElem? (i := 0) rfl) b hb).elim id (by simp))

theorem DrawAddFix_spec {w : World} {A : Option Addr} {c : Nat} {xs : List UInt8} (hs : Sl w 1 A xs.length c (xs.flatMap byteC)) :
    Calls Try.prog 49 #[.slice A xs.length c] w (RetER w 49 3 Fix.enc (fun (x : List Fix × Fix × Int) => x.1) (fun x v => .tuple #[v, .agg x.2.1.enc.toArray, .int .i64 x.2.2]) (fun x => x.1.length ≤ 20)) := by
  refine calls_of_run (vs := [_]) (L := [(0, _)]) (n := 32) (F := []) (H := []) Try.func49 rfl rfl rfl rfl (HOk.start _) ?_
  refine Run.seq ?_
  refine Run.ops ?_
  refine SOps.st rfl rfl (Yv.assign rfl).yl ?_
  refine SOps.one rfl (One.alloc rfl zero49 (fun b1 => ?_))
  refine SOps.st rfl rfl (Yv.assign rfl).yl ?_
  refine SOps.nil ?_
  refine Run.seq ?_
  refine Run.ops ?_
  refine SOps.st rfl rfl (Yv.move rfl).yl ?_
  refine SOps.st rfl rfl (Yv.buildG (pv := [(0, _)]) (cs := [_, _, _]) (fun l => match l with | [a0_0] => [a0_0, .int .i64 0, .int .u64 0] | _ => []) (.cons rfl (.nil)) rfl rfl (by kernel_rfl)).yl ?_
  refine SOps.one rfl (One.box (cs := [_, _, _]) rfl rfl rfl (fun b2 => ?_))
  refine SOps.st rfl rfl (Yv.assign rfl).yl ?_
  refine SOps.nil ?_
  refine Run.seq ?_
  refine Run.ops ?_
  refine SOps.st rfl rfl (Yv.move rfl).yl ?_
  refine SOps.one rfl (One.callCR (i := 0) (H' := fun _ _ => [_, _]) rfl callable71 (.cons rfl (.nil)) rfl (fun w' hw' => fixes_spec (Cur.own hs (i := 0) rfl hw') (by omega) (by omega)) (fun _ _ => rfl) (fun x1 Aq1 cq1 at1 sd1 hx1 ha1 hb1 => ?_))
  refine SOps.st rfl rfl (Yv.assign rfl).yl ?_
  refine SOps.nil ?_
  refine Run.seq ?_
  refine Run.quiet (by intro h; cases h) ?_
  refine QOps.st rfl rfl (Yv.assign rfl).yl ?_
  refine QOps.nil ?_
  refine Run.seq ?_
  refine Run.seq ?_
  refine Run.quiet (by intro h; cases h) ?_
  refine QOps.st rfl rfl (Yv.move rfl).yl ?_
  refine QOps.st rfl rfl (Yv.lenS el25s rfl).yl ?_
  refine QOps.st rfl rfl (Yv.gtr rfl rfl).yl ?_
  refine QOps.nil ?_
  refine Run.cond rfl (fun hc1 => ?_) (fun hc1 => ?_)
  · try replace hc1 := of_decide_eq_true hc1
    refine Run.draws (fun H => (H).eraseIdx 1) (m := 11) (listed := #[false, false, false, false, false, false, false, false, false, false, false]) (by kernel_rfl) rfl rfl ?_
    refine DOps.take (listed' := #[true, false, false, false, false, false, false, false, false, false, false]) 0 rfl (by kernel_rfl) rfl (List.Sublist.cons_cons _ (List.Sublist.cons _ (List.Sublist.refl _))) rfl rfl (Yv.move rfl) ?_
    refine DOps.take (listed' := #[true, true, false, false, false, false, false, false, false, false, false]) 1 rfl (by kernel_rfl) rfl (List.Sublist.cons_cons _ (List.Sublist.cons _ (List.Sublist.refl _))) rfl rfl (Yv.move rfl) ?_
    refine DOps.take (listed' := #[true, true, true, false, false, false, false, false, false, false, false]) 2 rfl (by kernel_rfl) rfl (List.Sublist.cons_cons _ (List.Sublist.cons _ (List.Sublist.refl _))) rfl rfl (Yv.lenS el25s rfl) ?_
    refine DOps.take (listed' := #[true, true, true, true, false, false, false, false, false, false, false]) 3 rfl (by kernel_rfl) rfl (List.Sublist.cons_cons _ (List.Sublist.cons _ (List.Sublist.refl _))) rfl rfl (Yv.sub rfl rfl (by omega)) ?_
    refine DOps.take (listed' := #[true, true, true, true, true, false, false, false, false, false, false]) 4 rfl (by kernel_rfl) rfl (List.Sublist.cons_cons _ (List.Sublist.cons _ (List.Sublist.refl _))) rfl rfl (Yv.indexAddr (x1.length - 1) el25 rfl rfl (by omega) (Rd.row (i := 0) rfl) (by omega)) ?_
    refine DOps.take (listed' := #[true, true, true, true, true, true, false, false, false, false, false]) 5 rfl (by kernel_rfl) rfl (List.Sublist.cons_cons _ (List.Sublist.cons _ (List.Sublist.refl _))) rfl rfl (Yv.fieldAddr fld49_0 rfl) ?_
    refine DOps.take (listed' := #[true, true, true, true, true, true, true, false, false, false, false]) 6 rfl (by kernel_rfl) rfl (List.Sublist.cons_cons _ (List.Sublist.cons _ (List.Sublist.refl _))) rfl rfl (Yv.loadF lay3 rfl Fix.len (Rd.row (i := 0) rfl) (by first | omega | (simp; omega)) (by decide) rfl) ?_
    refine DOps.take (listed' := #[true, true, true, true, true, true, true, true, false, false, false]) 7 rfl (by kernel_rfl) rfl (List.Sublist.cons_cons _ (List.Sublist.cons _ (List.Sublist.refl _))) rfl rfl (Yv.move rfl) ?_
    refine DOps.only (listed' := #[true, true, true, true, true, true, true, true, true, false, false]) 8 rfl (by kernel_rfl) rfl rfl ?_
    refine One.callC (i := 1) (H' := fun _ _ => [_, _, _]) rfl callable75 (.cons rfl (.cons rfl (.nil))) rfl (fun w' hw' => pick_spec (Cur.own hs (i := 1) rfl hw') (by omega) (by omega)) (fun _ _ => rfl) (fun x2 at2 sd2 ⟨hxl2, hxh2⟩ ha2 hb2 => ?_)
    refine ⟨(List.Sublist.cons_cons _ (List.Sublist.cons _ (List.Sublist.refl _))), ?_⟩
    refine DOps.take (listed' := #[true, true, true, true, true, true, true, true, true, true, false]) 9 rfl (by kernel_rfl) rfl (List.Sublist.cons_cons _ (List.Sublist.cons _ (List.Sublist.refl _))) rfl rfl (Yv.addW rfl rfl) ?_
    refine DOps.take (listed' := #[true, true, true, true, true, true, true, true, true, true, true]) 10 rfl (by kernel_rfl) rfl (List.Sublist.cons_cons _ (List.Sublist.cons _ (List.Sublist.refl _))) rfl rfl (Yv.assign rfl) ?_
    refine DOps.done (by kernel_rfl) ?_
    refine Run.seq ?_
    refine Run.ops ?_
    refine SOps.st rfl rfl (Yv.move rfl).yl ?_
    refine SOps.st rfl rfl (Yv.move rfl).yl ?_
    refine SOps.st rfl rfl (Yv.move rfl).yl ?_
    refine SOps.one rfl (One.callC (i := 1) (H' := fun _ _ => [_, _, _]) rfl callable76 (.cons rfl (.cons rfl (.nil))) rfl (fun w' hw' => fix_spec (Cur.own hs (i := 1) rfl hw') (by omega) (by omega)) (fun _ _ => rfl) (fun x3 at3 sd3 _ ha3 hb3 => ?_))
    refine SOps.st rfl rfl (Yv.move rfl).yl ?_
    refine SOps.one rfl (One.callC (i := 1) (H' := fun _ _ => [_, _, _]) rfl callable72 (.cons rfl (.nil)) rfl (fun w' hw' => pace_spec (Cur.own hs (i := 1) rfl hw') (by omega) (by omega)) (fun _ _ => rfl) (fun x4 at4 sd4 _ ha4 hb4 => ?_))
    refine SOps.st rfl rfl (Yv.assign rfl).yl ?_
    refine SOps.one rfl (One.store (i := 2) (off := 0) (vs := [_, _, _]) (cs' := [_, _, _]) (H' := [_, _, _]) lay49 rfl rfl rfl rfl rfl rfl rfl rfl rfl rfl ?_)
    refine SOps.st rfl rfl (Yv.assign rfl).yl ?_
    refine SOps.nil ?_
    refine Run.ret ?_
    refine retQ.of (.inr rfl) rfl (.tmp rfl (.cells (i := 2) rfl lay49 rfl rfl (.tmp rfl .nil))) (fun w' hw' => ?_)
    exact retER_of ((x1, _, _)) (by first | rfl | simp) rfl (by omega) hw'.bel.below (hw'.ent _ (List.mem_of_getElem? (i := 0) rfl)) (fun b hb => (hw'.own _ (List.mem_of_getElem? (i := 0) rfl) b hb).elim id (by simp))
  · try replace hc1 := of_decide_eq_false hc1
    refine Run.skip ?_
    refine Run.seq ?_
    refine Run.ops ?_
    refine SOps.st rfl rfl (Yv.move rfl).yl ?_
    refine SOps.st rfl rfl (Yv.move rfl).yl ?_
    refine SOps.st rfl rfl (Yv.move rfl).yl ?_
    refine SOps.one rfl (One.callC (i := 1) (H' := fun _ _ => [_, _, _]) rfl callable76 (.cons rfl (.cons rfl (.nil))) rfl (fun w' hw' => fix_spec (Cur.own hs (i := 1) rfl hw') (by omega) (by omega)) (fun _ _ => rfl) (fun x5 at5 sd5 _ ha5 hb5 => ?_))
    refine SOps.st rfl rfl (Yv.move rfl).yl ?_
    refine SOps.one rfl (One.callC (i := 1) (H' := fun _ _ => [_, _, _]) rfl callable72 (.cons rfl (.nil)) rfl (fun w' hw' => pace_spec (Cur.own hs (i := 1) rfl hw') (by omega) (by omega)) (fun _ _ => rfl) (fun x6 at6 sd6 _ ha6 hb6 => ?_))
    refine SOps.st rfl rfl (Yv.assign rfl).yl ?_
    refine SOps.one rfl (One.store (i := 2) (off := 0) (vs := [_, _, _]) (cs' := [_, _, _]) (H' := [_, _, _]) lay49 rfl rfl rfl rfl rfl rfl rfl rfl rfl rfl ?_)
    refine SOps.st rfl rfl (Yv.assign rfl).yl ?_
    refine SOps.nil ?_
    refine Run.ret ?_
    refine retQ.of (.inr rfl) rfl (.tmp rfl (.cells (i := 2) rfl lay49 rfl rfl (.tmp rfl .nil))) (fun w' hw' => ?_)
    exact retER_of ((x1, _, _)) (by first | rfl | simp) rfl (by omega) hw'.bel.below (hw'.ent _ (List.mem_of_getElem? (i := 0) rfl)) (fun b hb => (hw'.own _ (List.mem_of_getElem? (i := 0) rfl) b hb).elim id (by simp))
theorem vFixes_spec {w : World} {A A2 : Option Addr} {c c2 : Nat} {l : List Fix} (hs : Sl w 3 A l.length c (l.flatMap Fix.enc)) (hs2 : Sl w 3 A2 l.length c2 (l.flatMap Fix.enc)) :
    Calls Try.prog 50 #[.slice A l.length c, .slice A2 l.length c2] w (RetB w (.bool true)) := by
  have hmx := Sl.lenle hs
  refine calls_of_run (vs := [_, _]) (L := [(0, _), (1, _)]) (n := 26) (F := []) (H := []) Try.func50 rfl rfl rfl rfl (HOk.start _) ?_
  refine Run.seq ?_
  refine Run.quiet (by intro h; cases h) ?_
  refine QOps.st rfl rfl (Yv.assign rfl).yl ?_
  refine QOps.nil ?_
  refine Run.seq ?_
  refine Run.seq ?_
  refine Run.quiet (by intro h; cases h) ?_
  refine QOps.st rfl rfl (Yv.move rfl).yl ?_
  refine QOps.st rfl rfl (Yv.lenS el25s rfl).yl ?_
  refine QOps.st rfl rfl (Yv.move rfl).yl ?_
  refine QOps.st rfl rfl (Yv.lenS el25s rfl).yl ?_
  refine QOps.st rfl rfl (Yv.neI rfl rfl).yl ?_
  refine QOps.nil ?_
  refine Run.cond rfl (fun hc1 => ?_) (fun hc1 => ?_)
  · exfalso
    simp at hc1
  · try replace hc1 := of_decide_eq_false hc1
    refine Run.skip ?_
    refine Run.seq ?_
    refine Run.seq ?_
    refine Run.quiet (by intro h; cases h) ?_
    refine QOps.st rfl rfl (Yv.assign rfl).yl ?_
    refine QOps.nil ?_
    refine Run.block ?_
    refine Run.loop (S := Nat) (fun s => match s with | k => k ≤ l.length) (fun s => match s with | k => [(0, .slice A l.length c), (1, .slice A2 l.length c2), (5, .int .i64 (k : Int))]) (fun s => match s with | k => []) (fun s => match s with | k => l.length - k) 0 ?_ (SubE.cons rfl (SubE.cons rfl (SubE.cons rfl (SubE.nil _)))) (List.Sublist.refl _) ?_
    · exact Nat.zero_le _
    · rintro k hk
      show Run _ _ _ _ _ [(0, .slice A l.length c), (1, .slice A2 l.length c2), (5, .int .i64 (k : Int))] [] _
      refine Run.seq ?_
      refine Run.seq ?_
      refine Run.quiet (by intro h; cases h) ?_
      refine QOps.st rfl rfl (Yv.move rfl).yl ?_
      refine QOps.st rfl rfl (Yv.move rfl).yl ?_
      refine QOps.st rfl rfl (Yv.lenS el25s rfl).yl ?_
      refine QOps.st rfl rfl (Yv.lss rfl rfl).yl ?_
      refine QOps.nil ?_
      refine Run.cond rfl (fun hc2 => ?_) (fun hc2 => ?_)
      · try replace hc2 := of_decide_eq_true hc2
        refine Run.skip ?_
        refine Run.seq ?_
        refine Run.block ?_
        refine Run.seq ?_
        refine Run.quiet (fun _ => ⟨by kernel_rfl, by kernel_rfl⟩) ?_
        refine QOps.st rfl rfl (Yv.move rfl).yl ?_
        refine QOps.st rfl rfl (Yv.move rfl).yl ?_
        refine QOps.st rfl rfl (Yv.indexAddr k el25 rfl rfl rfl (Rd.arg hs) (by omega)).yl ?_
        refine QOps.st rfl rfl (Yv.loadEs lay49 rfl Fix.len (Rd.arg hs) (by first | omega | (simp; omega)) (by decide)).yl ?_
        refine QOps.st rfl rfl (Yv.move rfl).yl ?_
        refine QOps.st rfl rfl (Yv.move rfl).yl ?_
        refine QOps.st rfl rfl (Yv.indexAddr k el25 rfl rfl rfl (Rd.arg hs2) (by omega)).yl ?_
        refine QOps.st rfl rfl (Yv.loadEs lay49 rfl Fix.len (Rd.arg hs2) (by first | omega | (simp; omega)) (by decide)).yl ?_
        refine QOps.st rfl rfl (Yv.neS scal49 rfl rfl rfl rfl).yl ?_
        refine QOps.nil ?_
        refine Run.cond rfl (fun hc3 => ?_) (fun hc3 => ?_)
        · exfalso
          simp [eqC, Fix.enc] at hc3
        · try replace hc3 := of_decide_eq_false hc3
          refine Run.skip ?_
          refine Run.quiet (by intro h; cases h) ?_
          refine QOps.st rfl rfl (Yv.move rfl).yl ?_
          refine QOps.st rfl rfl (Yv.succN rfl rfl (by omega)).yl ?_
          refine QOps.st rfl rfl (Yv.assign rfl).yl ?_
          refine QOps.nil ?_
          refine ⟨k + 1, ?_, ?_, (SubE.cons rfl (SubE.cons rfl (SubE.cons rfl (SubE.nil _)))), (List.Sublist.refl _)⟩
          · show k + 1 ≤ _; omega
          · first | omega | (dsimp only; omega)
      · try replace hc2 := of_decide_eq_false hc2
        refine Run.exit ?_
        refine Run.seq ?_
        refine Run.quiet (by intro h; cases h) ?_
        refine QOps.st rfl rfl (Yv.assign rfl).yl ?_
        refine QOps.nil ?_
        refine Run.ret ?_
        refine retQ.of (.inr rfl) rfl (.tmp rfl .nil) (fun w' hw' => ?_)
        refine ⟨?_, hw'.bel.below⟩
        exact rfl

theorem Run.capRow {P : Program} {n i m cc sz : Nat} {w0 : World} {F : List Nat} {H : List HEnt} {L : Env} {T : TypeId} {A : Option Addr} {xs : List Value} {c : Code} {Q : Exit → Env → List HEnt → Prop} (hi : H[i]? = some (.row A cc T sz m xs)) (h : m ≤ cc → Run P n w0 F c L H Q) : Run P n w0 F c L H Q :=
  fun a w ha hw => h ((sl_of_row (hw.ent _ (List.mem_of_getElem? hi))).cap) a w ha hw
theorem AreConsistentN_spec {w : World} {A : Option Addr} {c n : Nat} {fs : List Fix} {pace : Int} (hn : fs.length = n) (hs : Sl w 3 A n c (fs.flatMap Fix.enc)) :
    Calls Try.prog 20 #[.slice A n c, .int .i64 pace] w (RetB w (.tuple #[.bool (areConsistentOf fs pace).1, .bool (areConsistentOf fs pace).2])) := by subst hn; exact AreConsistent_spec hs
theorem vFixesAdd_spec {w : World} {A A2 : Option Addr} {c c2 : Nat} {fs : List Fix} {f : Fix} {p : Int} (hs : Sl w 3 A ((addM fs f p).length - addK2 fs f p) c (((addM fs f p).drop (addK2 fs f p)).flatMap Fix.enc)) (hs2 : Sl w 3 A2 (addR fs f p).length c2 ((addR fs f p).flatMap Fix.enc)) :
    Calls Try.prog 50 #[.slice A ((addM fs f p).length - addK2 fs f p) c, .slice A2 (addR fs f p).length c2] w (RetB w (.bool true)) := by
  rw [add_eq, ← add_len] at hs
  rw [← add_len]
  exact vFixes_spec hs hs2
theorem FnFixes_spec {w : World} {A : Option Addr} {c : Nat} {xs : List UInt8} (hs : Sl w 1 A xs.length c (xs.flatMap byteC)) (_hb : 1 * xs.length ≤ 281474976710656) : Calls Try.prog 13 #[.slice A xs.length c] w (RetB w (.bool true)) := by
  refine calls_of_run (vs := [_]) (L := [(0, _)]) (n := 283) (F := []) (H := []) Try.func13 rfl rfl rfl rfl (HOk.start _) ?_
  refine Run.seq ?_
  refine Run.quiet (by intro h; cases h) ?_
  refine QOps.st rfl rfl (Yv.assign rfl).yl ?_
  refine QOps.nil ?_
  refine Run.seq ?_
  refine Run.seq ?_
  refine Run.quiet (by intro h; cases h) ?_
  refine QOps.st rfl rfl (Yv.move rfl).yl ?_
  refine QOps.st rfl rfl (Yl.call callable40 (.cons rfl (.nil)) (fun w' hw' => vBig_spec)) ?_
  refine QOps.nil ?_
  refine Run.cond rfl (fun hc1 => ?_) (fun hc1 => ?_)
  · try replace hc1 := of_decide_eq_true hc1
    refine Run.seq ?_
    refine Run.quiet (by intro h; cases h) ?_
    refine QOps.st rfl rfl (Yv.assign rfl).yl ?_
    refine QOps.nil ?_
    refine Run.ret ?_
    refine retQ.of (.inr rfl) rfl (.tmp rfl .nil) (fun w' hw' => ?_)
    refine ⟨?_, hw'.bel.below⟩
    exact rfl
  · try replace hc1 := of_decide_eq_false hc1
    refine Run.skip ?_
    refine Run.seq ?_
    refine Run.ops ?_
    refine SOps.st rfl rfl (Yv.move rfl).yl ?_
    refine SOps.one rfl (One.callER rfl callable46 (.cons rfl (.nil)) (fun w' hw' => DrawAreConsistent_spec ((Rd.arg hs) w' hw')) ?_)
    rintro ⟨ya1, yb1⟩ Aq1 cq1 hx1
    try dsimp only at *
    refine SOps.st rfl rfl (Yv.move rfl).yl ?_
    refine SOps.st rfl rfl (Yv.extract rfl rfl).yl ?_
    refine SOps.st rfl rfl (Yv.extract rfl rfl).yl ?_
    refine SOps.st rfl rfl (Yv.assign rfl).yl ?_
    refine SOps.st rfl rfl (Yv.assign rfl).yl ?_
    refine SOps.nil ?_
    refine Run.seq ?_
    refine Run.quiet (by intro h; cases h) ?_
    refine QOps.st rfl rfl (Yv.move rfl).yl ?_
    refine QOps.st rfl rfl (Yv.move rfl).yl ?_
    refine QOps.st rfl rfl (Yl.call callable20 (.cons rfl (.cons rfl (.nil))) (fun w' hw' => AreConsistentN_spec (by first | rfl | exact without_len hOl) ((Rd.row (i := 0) rfl) w' hw'))) ?_
    refine QOps.st rfl rfl (Yv.move rfl).yl ?_
    refine QOps.st rfl rfl (Yv.extract rfl rfl).yl ?_
    refine QOps.st rfl rfl (Yv.extract rfl rfl).yl ?_
    refine QOps.st rfl rfl (Yv.assign rfl).yl ?_
    refine QOps.st rfl rfl (Yv.assign rfl).yl ?_
    refine QOps.nil ?_
    refine Run.seq ?_
    refine Run.seq ?_
    refine Run.quiet (by intro h; cases h) ?_
    refine QOps.st rfl rfl (Yv.move rfl).yl ?_
    refine QOps.st rfl rfl (Yv.move rfl).yl ?_
    refine QOps.st rfl rfl (Yl.call callable19 (.cons rfl (.cons rfl (.nil))) (fun w' hw' => sAreConsistent_spec ((Rd.row (i := 0) rfl) w' hw'))) ?_
    refine QOps.st rfl rfl (Yv.move rfl).yl ?_
    refine QOps.st rfl rfl (Yv.extract rfl rfl).yl ?_
    refine QOps.st rfl rfl (Yv.extract rfl rfl).yl ?_
    refine QOps.st rfl rfl (Yv.assign rfl).yl ?_
    refine QOps.st rfl rfl (Yv.assign rfl).yl ?_
    refine QOps.nil ?_
    refine Run.seq ?_
    refine Run.quiet (by intro h; cases h) ?_
    refine QOps.st rfl rfl (Yv.move rfl).yl ?_
    refine QOps.st rfl rfl (Yv.move rfl).yl ?_
    refine QOps.st rfl rfl (Yv.neB bool4 rfl rfl).yl ?_
    refine QOps.st rfl rfl (Yv.move rfl).yl ?_
    refine' QOps.or [_, _, _] _ (.tmp 68) rfl rfl rfl rfl rfl rfl (fun hg1 => ?_) ?_
    rotate_left
    · try replace hg1 := of_decide_eq_false hg1
      first | (have hA1 := (hAd (not_f hg1)).2) | skip
      refine QOps.st rfl rfl (Yv.move rfl).yl ?_
      refine QOps.st rfl rfl (Yv.move rfl).yl ?_
      refine QOps.st rfl rfl (Yv.neB bool4 rfl rfl).yl ?_
      exact QOps.nil rfl
    refine QOps.st rfl rfl (Yv.move rfl).yl ?_
    refine' QOps.or [_, _, _, _, _] _ (.tmp 75) rfl rfl rfl rfl rfl rfl (fun hg2 => ?_) ?_
    rotate_left
    · try replace hg2 := of_decide_eq_false hg2
      first | (have hA1 := (hAd (not_f hg2)).2) | skip
      refine QOps.st rfl rfl (Yv.move rfl).yl ?_
      refine QOps.st rfl rfl (Yl.call callable17 (.cons rfl (.nil)) (fun w' hw' => areFixesN_spec (by first | rfl | (simp; done) | (simp; omega)) ((Rd.row (i := 0) rfl) w' hw'))) ?_
      refine QOps.st rfl rfl (Yv.move rfl).yl ?_
      refine QOps.st rfl rfl (Yl.call callable15 (.cons rfl (.nil)) (fun w' hw' => sAreFixes_spec ((Rd.row (i := 0) rfl) w' hw'))) ?_
      refine QOps.st rfl rfl (Yv.neB bool4 rfl rfl).yl ?_
      exact QOps.nil rfl
    refine QOps.nil ?_
    refine Run.cond rfl (fun hc2 => ?_) (fun hc2 => ?_)
    · exfalso
      simp at hc2
    · try replace hc2 := of_decide_eq_false hc2
      refine Run.skip ?_
      refine Run.seq ?_
      refine Run.seq ?_
      refine Run.quiet (by intro h; cases h) ?_
      refine QOps.st rfl rfl (Yv.move rfl).yl ?_
      refine QOps.nil ?_
      refine Run.cond rfl (fun hc3 => ?_) (fun hc3 => ?_)
      · try replace hc3 := of_decide_eq_true hc3
        have hA := asked hc3
        have hAb := hA.bnd
        have hAl := hA.len
        rw [hA.is_]
        dsimp only
        refine Run.seq ?_
        refine Run.quiet (by intro h; cases h) ?_
        refine QOps.st rfl rfl (Yv.assign rfl).yl ?_
        refine QOps.nil ?_
        refine Run.seq ?_
        refine Run.seq ?_
        refine Run.quiet (by intro h; cases h) ?_
        refine QOps.st rfl rfl (Yv.assign rfl).yl ?_
        refine QOps.nil ?_
        refine Run.block ?_
        refine Run.loop (S := Nat) (fun s => match s with | i => i ≤ ya1.length) (fun s => match s with | i => [(0, .slice A xs.length c), (3, .slice Aq1 ya1.length cq1), (4, .int .i64 yb1), (5, .bool (consistent ya1 yb1)), (9, .bool (allUp ya1 yb1 i)), (10, .int .i64 (i : Int))]) (fun s => match s with | i => [.row Aq1 cq1 49 3 ya1.length (ya1.flatMap Fix.enc)]) (fun s => match s with | i => ya1.length - i) 0 ?_ (SubE.cons rfl (SubE.cons rfl (SubE.cons rfl (SubE.cons rfl (SubE.cons rfl (SubE.cons rfl (SubE.nil _))))))) (List.Sublist.refl _) ?_
        · exact Nat.zero_le _
        · rintro i hi
          show Run _ _ _ _ _ [(0, .slice A xs.length c), (3, .slice Aq1 ya1.length cq1), (4, .int .i64 yb1), (5, .bool (consistent ya1 yb1)), (9, .bool (allUp ya1 yb1 i)), (10, .int .i64 (i : Int))] [.row Aq1 cq1 49 3 ya1.length (ya1.flatMap Fix.enc)] _
          refine Run.seq ?_
          refine Run.seq ?_
          refine Run.quiet (by intro h; cases h) ?_
          refine QOps.st rfl rfl (Yv.move rfl).yl ?_
          refine QOps.st rfl rfl (Yv.move rfl).yl ?_
          refine QOps.st rfl rfl (Yv.lenS el25s rfl).yl ?_
          refine QOps.st rfl rfl (Yv.lss rfl rfl).yl ?_
          refine QOps.nil ?_
          refine Run.cond rfl (fun hc4 => ?_) (fun hc4 => ?_)
          · try replace hc4 := of_decide_eq_true hc4
            refine Run.skip ?_
            refine Run.seq ?_
            refine Run.block ?_
            refine Run.seq ?_
            refine Run.ops ?_
            refine SOps.st rfl rfl (Yv.move rfl).yl ?_
            refine SOps.st rfl rfl (Yv.move rfl).yl ?_
            refine SOps.st rfl rfl (Yv.move rfl).yl ?_
            refine SOps.st rfl rfl (Yv.move rfl).yl ?_
            refine SOps.st rfl rfl (Yv.indexAddr i el25 rfl rfl rfl (Rd.row (i := 0) rfl) (by omega)).yl ?_
            refine SOps.st rfl rfl (Yv.fieldAddr fld49_0 rfl).yl ?_
            refine SOps.st rfl rfl (Yv.loadF lay3 rfl Fix.len (Rd.row (i := 0) rfl) (by first | omega | (simp; omega)) (by decide) rfl).yl ?_
            refine SOps.st rfl rfl (Yl.call callable26 (.cons rfl (.cons rfl (.cons rfl (.nil)))) (fun w' hw' => SpanAt_spec ((Rd.row (i := 0) rfl) w' hw'))) ?_
            refine SOps.st rfl rfl (Yv.move rfl).yl ?_
            refine SOps.st rfl rfl (Yv.extract rfl rfl).yl ?_
            refine SOps.st rfl rfl (Yv.extract rfl rfl).yl ?_
            refine SOps.one rfl (One.alloc rfl zero37 (fun b1 => ?_))
            refine SOps.one rfl (One.store (i := 0) (off := 0) (vs := [_, _]) (cs' := [_, _]) (H' := [_, _]) lay37 rfl rfl rfl rfl rfl rfl rfl rfl rfl rfl ?_)
            refine SOps.st rfl rfl (Yv.assign rfl).yl ?_
            refine SOps.nil ?_
            refine Run.seq ?_
            refine Run.quiet (by intro h; cases h) ?_
            refine QOps.st rfl rfl (Yv.move rfl).yl ?_
            refine QOps.st rfl rfl (Yv.move rfl).yl ?_
            refine' QOps.and [_] _ (.tmp 97) rfl rfl rfl rfl rfl rfl (fun hg3 => ?_) ?_
            rotate_left
            · try replace hg3 := of_decide_eq_true hg3
              first | (have hA1 := (hAd (not_f hg3)).2) | skip
              refine QOps.st rfl rfl (Yv.move rfl).yl ?_
              exact QOps.nil rfl
            refine QOps.st rfl rfl (Yv.assign rfl).yl ?_
            refine QOps.nil ?_
            refine Run.seq ?_
            refine Run.quiet (by intro h; cases h) ?_
            refine QOps.st rfl rfl (Yv.assign rfl).yl ?_
            refine QOps.nil ?_
            refine Run.block ?_
            refine Run.loop (S := Nat) (fun s => match s with | k => k ≤ i) (fun s => match s with | k => [(0, .slice A xs.length c), (3, .slice Aq1 ya1.length cq1), (4, .int .i64 yb1), (5, .bool (consistent ya1 yb1)), (9, .bool (pairsFrom ya1 yb1 i (allUp ya1 yb1 i && (spanOf ya1 yb1 (nth ya1 i).minute).2) k)), (10, .int .i64 (i : Int)), (13, .int .i64 (k : Int))]) (fun s => match s with | k => [.row Aq1 cq1 49 3 ya1.length (ya1.flatMap Fix.enc)]) (fun s => match s with | k => i - k) 0 ?_ (SubE.cons rfl (SubE.cons rfl (SubE.cons rfl (SubE.cons rfl (SubE.cons rfl (SubE.cons rfl (SubE.cons rfl (SubE.nil _)))))))) (List.Sublist.cons _ (List.Sublist.refl _)) ?_
            · exact Nat.zero_le _
            · rintro k hk
              show Run _ _ _ _ _ [(0, .slice A xs.length c), (3, .slice Aq1 ya1.length cq1), (4, .int .i64 yb1), (5, .bool (consistent ya1 yb1)), (9, .bool (pairsFrom ya1 yb1 i (allUp ya1 yb1 i && (spanOf ya1 yb1 (nth ya1 i).minute).2) k)), (10, .int .i64 (i : Int)), (13, .int .i64 (k : Int))] [.row Aq1 cq1 49 3 ya1.length (ya1.flatMap Fix.enc)] _
              refine Run.seq ?_
              refine Run.seq ?_
              refine Run.quiet (by intro h; cases h) ?_
              refine QOps.st rfl rfl (Yv.move rfl).yl ?_
              refine QOps.st rfl rfl (Yv.move rfl).yl ?_
              refine QOps.st rfl rfl (Yv.lss rfl rfl).yl ?_
              refine QOps.nil ?_
              refine Run.cond rfl (fun hc5 => ?_) (fun hc5 => ?_)
              · try replace hc5 := of_decide_eq_true hc5
                refine Run.skip ?_
                refine Run.seq ?_
                refine Run.block ?_
                refine Run.seq ?_
                refine Run.draws (fun H => H) (m := 16) (listed := #[false, false, false, false, false, false, false, false, false, false, false, false, false, false, false, false]) (by kernel_rfl) rfl rfl ?_
                refine DOps.take (listed' := #[true, false, false, false, false, false, false, false, false, false, false, false, false, false, false, false]) 0 rfl (by kernel_rfl) rfl (List.Sublist.refl _) rfl rfl (Yv.move rfl) ?_
                refine DOps.take (listed' := #[true, true, false, false, false, false, false, false, false, false, false, false, false, false, false, false]) 1 rfl (by kernel_rfl) rfl (List.Sublist.refl _) rfl rfl (Yv.move rfl) ?_
                refine DOps.take (listed' := #[true, true, true, false, false, false, false, false, false, false, false, false, false, false, false, false]) 2 rfl (by kernel_rfl) rfl (List.Sublist.refl _) rfl rfl (Yv.indexAddr k el25 rfl rfl rfl (Rd.row (i := 0) rfl) (by omega)) ?_
                refine DOps.take (listed' := #[true, true, true, true, false, false, false, false, false, false, false, false, false, false, false, false]) 3 rfl (by kernel_rfl) rfl (List.Sublist.refl _) rfl rfl (Yv.loadEs lay49 rfl Fix.len (Rd.row (i := 0) rfl) (by first | omega | (simp; omega)) (by decide)) ?_
                refine DOps.take (listed' := #[true, true, true, true, true, false, false, false, false, false, false, false, false, false, false, false]) 4 rfl (by kernel_rfl) rfl (List.Sublist.refl _) rfl rfl (Yv.move rfl) ?_
                refine DOps.take (listed' := #[true, true, true, true, true, true, false, false, false, false, false, false, false, false, false, false]) 5 rfl (by kernel_rfl) rfl (List.Sublist.refl _) rfl rfl (Yv.move rfl) ?_
                refine DOps.take (listed' := #[true, true, true, true, true, true, true, false, false, false, false, false, false, false, false, false]) 6 rfl (by kernel_rfl) rfl (List.Sublist.refl _) rfl rfl (Yv.indexAddr i el25 rfl rfl rfl (Rd.row (i := 0) rfl) (by omega)) ?_
                refine DOps.take (listed' := #[true, true, true, true, true, true, true, true, false, false, false, false, false, false, false, false]) 7 rfl (by kernel_rfl) rfl (List.Sublist.refl _) rfl rfl (Yv.loadEs lay49 rfl Fix.len (Rd.row (i := 0) rfl) (by first | omega | (simp; omega)) (by decide)) ?_
                refine DOps.take (listed' := #[true, true, true, true, true, true, true, true, false, true, false, false, false, false, false, false]) 9 rfl (by kernel_rfl) rfl (List.Sublist.refl _) rfl rfl (Yv.move rfl) ?_
                refine DOps.only (listed' := #[true, true, true, true, true, true, true, true, true, true, false, false, false, false, false, false]) 8 rfl (by kernel_rfl) rfl rfl ?_
                refine One.buildSliceG (pv := [(0, _), (1, _)]) (cs := [_, _, _, _, _, _]) (fun l => match l with | [.agg ⟨[a0_0, a0_1, a0_2]⟩, .agg ⟨[a1_0, a1_1, a1_2]⟩] => [a0_0, a0_1, a0_2, a1_0, a1_1, a1_2] | _ => []) rfl el25 (.cons rfl (.cons rfl (.nil))) rfl rfl (by kernel_rfl) rfl rfl (fun b2 => ?_)
                refine ⟨(List.Sublist.cons _ (List.Sublist.refl _)), ?_⟩
                refine DOps.only (listed' := #[true, true, true, true, true, true, true, true, true, true, true, false, false, false, false, false]) 10 rfl (by kernel_rfl) rfl rfl ?_
                refine One.st rfl (Yl.call callable20 (.cons rfl (.cons rfl (.nil))) (fun w' hw' => AreConsistentN_spec (fs := [nth ya1 k, nth ya1 i]) rfl ((Rd.row (i := 0) rfl) w' hw'))) ?_
                refine ⟨(List.Sublist.cons _ (List.Sublist.refl _)), ?_⟩
                refine DOps.take (listed' := #[true, true, true, true, true, true, true, true, true, true, true, true, false, false, false, false]) 11 rfl (by kernel_rfl) rfl (List.Sublist.cons _ (List.Sublist.refl _)) rfl rfl (Yv.move rfl) ?_
                refine DOps.take (listed' := #[true, true, true, true, true, true, true, true, true, true, true, true, true, false, false, false]) 12 rfl (by kernel_rfl) rfl (List.Sublist.cons _ (List.Sublist.refl _)) rfl rfl (Yv.extract rfl rfl) ?_
                refine DOps.take (listed' := #[true, true, true, true, true, true, true, true, true, true, true, true, true, true, false, false]) 13 rfl (by kernel_rfl) rfl (List.Sublist.cons _ (List.Sublist.refl _)) rfl rfl (Yv.extract rfl rfl) ?_
                refine DOps.take (listed' := #[true, true, true, true, true, true, true, true, true, true, true, true, true, true, true, false]) 14 rfl (by kernel_rfl) rfl (List.Sublist.cons _ (List.Sublist.refl _)) rfl rfl (Yv.assign rfl) ?_
                refine DOps.take (listed' := #[true, true, true, true, true, true, true, true, true, true, true, true, true, true, true, true]) 15 rfl (by kernel_rfl) rfl (List.Sublist.cons _ (List.Sublist.refl _)) rfl rfl (Yv.assign rfl) ?_
                refine DOps.done (by kernel_rfl) ?_
                rw [hA.two i k (by omega) (by omega)]
                dsimp only
                refine Run.seq ?_
                refine Run.seq ?_
                refine Run.quiet (by intro h; cases h) ?_
                refine QOps.st rfl rfl (Yv.move rfl).yl ?_
                refine QOps.st rfl rfl (Yv.not rfl).yl ?_
                refine QOps.st rfl rfl (Yv.move rfl).yl ?_
                refine' QOps.or [_, _, _, _, _] _ (.tmp 125) rfl rfl rfl rfl rfl rfl (fun hg4 => ?_) ?_
                rotate_left
                · try replace hg4 := of_decide_eq_false hg4
                  first | (have hA1 := (hAd (not_f hg4)).2) | skip
                  refine QOps.st rfl rfl (Yv.move rfl).yl ?_
                  refine QOps.st rfl rfl (Yv.move rfl).yl ?_
                  refine' QOps.and [_, _] _ (.tmp 124) rfl rfl rfl rfl rfl rfl (fun hg5 => ?_) ?_
                  rotate_left
                  · try replace hg5 := of_decide_eq_true hg5
                    first | (have hA1 := (hAd (not_f hg5)).2) | skip
                    refine QOps.st rfl rfl (Yv.move rfl).yl ?_
                    refine QOps.st rfl rfl (Yv.not rfl).yl ?_
                    exact QOps.nil rfl
                  exact QOps.nil rfl
                refine QOps.nil ?_
                refine Run.cond rfl (fun hc6 => ?_) (fun hc6 => ?_)
                · exfalso
                  rcases hcc : consistent ya1 yb1 with _ | _
                  · simp [hcc] at hc6
                  · have h7 := hA.yes hcc i k (by omega) (by omega)
                    simp [hcc, h7] at hc6
                · try replace hc6 := of_decide_eq_false hc6
                  refine Run.skip ?_
                  refine Run.quiet (by intro h; cases h) ?_
                  refine QOps.st rfl rfl (Yv.move rfl).yl ?_
                  refine QOps.st rfl rfl (Yv.move rfl).yl ?_
                  refine' QOps.and [_] _ (.tmp 129) rfl rfl rfl rfl rfl rfl (fun hg6 => ?_) ?_
                  rotate_left
                  · try replace hg6 := of_decide_eq_true hg6
                    first | (have hA1 := (hAd (not_f hg6)).2) | skip
                    refine QOps.st rfl rfl (Yv.move rfl).yl ?_
                    exact QOps.nil rfl
                  refine QOps.st rfl rfl (Yv.assign rfl).yl ?_
                  refine QOps.nil ?_
                  refine Run.quiet (by intro h; cases h) ?_
                  refine QOps.st rfl rfl (Yv.move rfl).yl ?_
                  refine QOps.st rfl rfl (Yv.succN rfl rfl (by omega)).yl ?_
                  refine QOps.st rfl rfl (Yv.assign rfl).yl ?_
                  refine QOps.nil ?_
                  refine ⟨k + 1, ?_, ?_, (SubE.cons rfl (SubE.cons rfl (SubE.cons rfl (SubE.cons rfl (SubE.cons rfl (SubE.cons rfl (SubE.cons rfl (SubE.nil _)))))))), (List.Sublist.cons _ (List.Sublist.refl _))⟩
                  · show k + 1 ≤ _; omega
                  · first | omega | (dsimp only; omega)
              · try replace hc5 := of_decide_eq_false hc5
                have hki : i = k := by omega
                subst hki
                refine Run.exit ?_
                refine Run.quiet (by intro h; cases h) ?_
                refine QOps.st rfl rfl (Yv.move rfl).yl ?_
                refine QOps.st rfl rfl (Yv.succN rfl rfl (by omega)).yl ?_
                refine QOps.st rfl rfl (Yv.assign rfl).yl ?_
                refine QOps.nil ?_
                refine ⟨i + 1, ?_, ?_, (SubE.cons rfl (SubE.cons rfl (SubE.cons rfl (SubE.cons rfl (SubE.cons rfl (SubE.cons rfl (SubE.nil _))))))), (List.Sublist.refl _)⟩
                · show i + 1 ≤ _; omega
                · first | omega | (dsimp only; omega)
          · try replace hc4 := of_decide_eq_false hc4
            refine Run.exit ?_
            refine Run.seq ?_
            refine Run.quiet (by intro h; cases h) ?_
            refine QOps.st rfl rfl (Yv.move rfl).yl ?_
            refine QOps.st rfl rfl (Yv.move rfl).yl ?_
            refine QOps.st rfl rfl (Yv.neB bool4 rfl rfl).yl ?_
            refine QOps.nil ?_
            refine Run.cond rfl (fun hc7 => ?_) (fun hc7 => ?_)
            · exfalso
              rw [show i = ya1.length by omega, hA.all] at hc7
              simp at hc7
            · try replace hc7 := of_decide_eq_false hc7
              refine Run.skip ?_
              refine Run.seq ?_
              refine Run.ops ?_
              refine SOps.st rfl rfl (Yv.move rfl).yl ?_
              refine SOps.one rfl (One.callER rfl callable47 (.cons rfl (.nil)) (fun w' hw' => DrawSlowestPace_spec ((Rd.arg hs) w' hw')) ?_)
              rintro ya2 Aq2 cq2 hx2
              try dsimp only at *
              refine SOps.st rfl rfl (Yv.assign rfl).yl ?_
              refine SOps.nil ?_
              refine Run.seq ?_
              refine Run.quiet (by intro h; cases h) ?_
              refine QOps.st rfl rfl (Yv.move rfl).yl ?_
              refine QOps.st rfl rfl (Yl.call callable22 (.cons rfl (.nil)) (fun w' hw' => SlowestPace_spec ((Rd.row (i := 0) rfl) w' hw'))) ?_
              refine QOps.st rfl rfl (Yv.move rfl).yl ?_
              refine QOps.st rfl rfl (Yv.extract rfl rfl).yl ?_
              refine QOps.st rfl rfl (Yv.extract rfl rfl).yl ?_
              refine QOps.st rfl rfl (Yv.assign rfl).yl ?_
              refine QOps.st rfl rfl (Yv.assign rfl).yl ?_
              refine QOps.nil ?_
              refine Run.seq ?_
              refine Run.seq ?_
              refine Run.quiet (by intro h; cases h) ?_
              refine QOps.st rfl rfl (Yv.move rfl).yl ?_
              refine QOps.st rfl rfl (Yl.call callable21 (.cons rfl (.nil)) (fun w' hw' => sSlowestPace_spec ((Rd.row (i := 0) rfl) w' hw'))) ?_
              refine QOps.st rfl rfl (Yv.move rfl).yl ?_
              refine QOps.st rfl rfl (Yv.extract rfl rfl).yl ?_
              refine QOps.st rfl rfl (Yv.extract rfl rfl).yl ?_
              refine QOps.st rfl rfl (Yv.assign rfl).yl ?_
              refine QOps.st rfl rfl (Yv.assign rfl).yl ?_
              refine QOps.nil ?_
              refine Run.seq ?_
              refine Run.quiet (by intro h; cases h) ?_
              refine QOps.st rfl rfl (Yv.move rfl).yl ?_
              refine QOps.st rfl rfl (Yv.move rfl).yl ?_
              refine QOps.st rfl rfl (Yv.neI rfl rfl).yl ?_
              refine QOps.st rfl rfl (Yv.move rfl).yl ?_
              refine' QOps.or [_, _, _] _ (.tmp 152) rfl rfl rfl rfl rfl rfl (fun hg7 => ?_) ?_
              rotate_left
              · try replace hg7 := of_decide_eq_false hg7
                first | (have hA1 := (hAd (not_f hg7)).2) | skip
                refine QOps.st rfl rfl (Yv.move rfl).yl ?_
                refine QOps.st rfl rfl (Yv.move rfl).yl ?_
                refine QOps.st rfl rfl (Yv.neB bool4 rfl rfl).yl ?_
                exact QOps.nil rfl
              refine QOps.nil ?_
              refine Run.cond rfl (fun hc8 => ?_) (fun hc8 => ?_)
              · exfalso
                simp at hc8
              · try replace hc8 := of_decide_eq_false hc8
                refine Run.skip ?_
                refine Run.seq ?_
                refine Run.seq ?_
                refine Run.quiet (by intro h; cases h) ?_
                refine QOps.st rfl rfl (Yv.move rfl).yl ?_
                refine QOps.nil ?_
                refine Run.cond rfl (fun hc9 => ?_) (fun hc9 => ?_)
                · try replace hc9 := of_decide_eq_true hc9
                  have hS := slow hc9
                  have hSb := hS.bnd
                  refine Run.seq ?_
                  refine Run.quiet (by intro h; cases h) ?_
                  refine QOps.st rfl rfl (Yv.move rfl).yl ?_
                  refine QOps.st rfl rfl (Yv.move rfl).yl ?_
                  refine QOps.st rfl rfl (Yl.call callable20 (.cons rfl (.cons rfl (.nil))) (fun w' hw' => AreConsistentN_spec (by first | rfl | exact without_len hOl) ((Rd.row (i := 0) rfl) w' hw'))) ?_
                  refine QOps.st rfl rfl (Yv.move rfl).yl ?_
                  refine QOps.st rfl rfl (Yv.extract rfl rfl).yl ?_
                  refine QOps.st rfl rfl (Yv.extract rfl rfl).yl ?_
                  refine QOps.st rfl rfl (Yv.assign rfl).yl ?_
                  refine QOps.st rfl rfl (Yv.assign rfl).yl ?_
                  refine QOps.nil ?_
                  refine Run.seq ?_
                  refine Run.quiet (by intro h; cases h) ?_
                  refine QOps.st rfl rfl (Yv.move rfl).yl ?_
                  refine QOps.st rfl rfl (Yv.move rfl).yl ?_
                  refine QOps.st rfl rfl (Yv.sub rfl rfl (by omega)).yl ?_
                  refine QOps.st rfl rfl (Yl.call callable20 (.cons rfl (.cons rfl (.nil))) (fun w' hw' => AreConsistentN_spec (by first | rfl | exact without_len hOl) ((Rd.row (i := 0) rfl) w' hw'))) ?_
                  refine QOps.st rfl rfl (Yv.move rfl).yl ?_
                  refine QOps.st rfl rfl (Yv.extract rfl rfl).yl ?_
                  refine QOps.st rfl rfl (Yv.extract rfl rfl).yl ?_
                  refine QOps.st rfl rfl (Yv.assign rfl).yl ?_
                  refine QOps.st rfl rfl (Yv.assign rfl).yl ?_
                  refine QOps.nil ?_
                  refine Run.seq ?_
                  refine Run.quiet (by intro h; cases h) ?_
                  refine QOps.st rfl rfl (Yv.move rfl).yl ?_
                  refine QOps.st rfl rfl (Yv.not rfl).yl ?_
                  refine QOps.st rfl rfl (Yv.move rfl).yl ?_
                  refine' QOps.or [_, _] _ (.tmp 172) rfl rfl rfl rfl rfl rfl (fun hg8 => ?_) ?_
                  rotate_left
                  · try replace hg8 := of_decide_eq_false hg8
                    first | (have hA1 := (hAd (not_f hg8)).2) | skip
                    refine QOps.st rfl rfl (Yv.move rfl).yl ?_
                    refine QOps.st rfl rfl (Yv.not rfl).yl ?_
                    exact QOps.nil rfl
                  refine QOps.st rfl rfl (Yv.move rfl).yl ?_
                  refine' QOps.or [_, _, _, _] _ (.tmp 178) rfl rfl rfl rfl rfl rfl (fun hg9 => ?_) ?_
                  rotate_left
                  · try replace hg9 := of_decide_eq_false hg9
                    first | (have hA1 := (hAd (not_f hg9)).2) | skip
                    refine QOps.st rfl rfl (Yv.move rfl).yl ?_
                    refine QOps.st rfl rfl (Yv.move rfl).yl ?_
                    refine' QOps.and [_] _ (.tmp 177) rfl rfl rfl rfl rfl rfl (fun hg10 => ?_) ?_
                    rotate_left
                    · try replace hg10 := of_decide_eq_true hg10
                      first | (have hA1 := (hAd (not_f hg10)).2) | skip
                      refine QOps.st rfl rfl (Yv.move rfl).yl ?_
                      exact QOps.nil rfl
                    exact QOps.nil rfl
                  refine QOps.nil ?_
                  refine Run.cond rfl (fun hc10 => ?_) (fun hc10 => ?_)
                  · exfalso
                    simp [hS.is_] at hc10
                    exact absurd (hS.less hc10.1) (by rw [hc10.2]; simp)
                  · try replace hc10 := of_decide_eq_false hc10
                    refine Run.skip ?_
                    refine Run.seq ?_
                    refine Run.ops ?_
                    refine SOps.st rfl rfl (Yv.move rfl).yl ?_
                    refine SOps.one rfl (One.callER rfl callable48 (.cons rfl (.nil)) (fun w' hw' => DrawOddFix_spec ((Rd.arg hs) w' hw')) ?_)
                    rintro ⟨ya3, yb3⟩ Aq3 cq3 hx3
                    try dsimp only at *
                    refine SOps.st rfl rfl (Yv.move rfl).yl ?_
                    refine SOps.st rfl rfl (Yv.extract rfl rfl).yl ?_
                    refine SOps.st rfl rfl (Yv.extract rfl rfl).yl ?_
                    refine SOps.st rfl rfl (Yv.assign rfl).yl ?_
                    refine SOps.st rfl rfl (Yv.assign rfl).yl ?_
                    refine SOps.nil ?_
                    refine Run.seq ?_
                    refine Run.quiet (by intro h; cases h) ?_
                    refine QOps.st rfl rfl (Yv.move rfl).yl ?_
                    refine QOps.st rfl rfl (Yv.move rfl).yl ?_
                    refine QOps.st rfl rfl (Yl.call callable29 (.cons rfl (.cons rfl (.nil))) (fun w' hw' => OddFix_spec ((Rd.row (i := 0) rfl) w' hw'))) ?_
                    refine QOps.st rfl rfl (Yv.move rfl).yl ?_
                    refine QOps.st rfl rfl (Yv.extract rfl rfl).yl ?_
                    refine QOps.st rfl rfl (Yv.extract rfl rfl).yl ?_
                    refine QOps.st rfl rfl (Yv.assign rfl).yl ?_
                    refine QOps.st rfl rfl (Yv.assign rfl).yl ?_
                    refine QOps.nil ?_
                    refine Run.seq ?_
                    refine Run.seq ?_
                    refine Run.quiet (by intro h; cases h) ?_
                    refine QOps.st rfl rfl (Yv.move rfl).yl ?_
                    refine QOps.st rfl rfl (Yv.move rfl).yl ?_
                    refine QOps.st rfl rfl (Yl.call callable28 (.cons rfl (.cons rfl (.nil))) (fun w' hw' => sOddFix_spec ((Rd.row (i := 0) rfl) w' hw'))) ?_
                    refine QOps.st rfl rfl (Yv.move rfl).yl ?_
                    refine QOps.st rfl rfl (Yv.extract rfl rfl).yl ?_
                    refine QOps.st rfl rfl (Yv.extract rfl rfl).yl ?_
                    refine QOps.st rfl rfl (Yv.assign rfl).yl ?_
                    refine QOps.st rfl rfl (Yv.assign rfl).yl ?_
                    refine QOps.nil ?_
                    refine Run.seq ?_
                    refine Run.quiet (by intro h; cases h) ?_
                    refine QOps.st rfl rfl (Yv.move rfl).yl ?_
                    refine QOps.st rfl rfl (Yv.move rfl).yl ?_
                    refine QOps.st rfl rfl (Yv.neI rfl rfl).yl ?_
                    refine QOps.st rfl rfl (Yv.move rfl).yl ?_
                    refine' QOps.or [_, _, _] _ (.tmp 203) rfl rfl rfl rfl rfl rfl (fun hg11 => ?_) ?_
                    rotate_left
                    · try replace hg11 := of_decide_eq_false hg11
                      first | (have hA1 := (hAd (not_f hg11)).2) | skip
                      refine QOps.st rfl rfl (Yv.move rfl).yl ?_
                      refine QOps.st rfl rfl (Yv.move rfl).yl ?_
                      refine QOps.st rfl rfl (Yv.neB bool4 rfl rfl).yl ?_
                      exact QOps.nil rfl
                    refine QOps.nil ?_
                    refine Run.cond rfl (fun hc11 => ?_) (fun hc11 => ?_)
                    · exfalso
                      simp at hc11
                    · try replace hc11 := of_decide_eq_false hc11
                      refine Run.skip ?_
                      refine Run.seq ?_
                      refine Run.seq ?_
                      refine Run.quiet (by intro h; cases h) ?_
                      refine QOps.st rfl rfl (Yv.move rfl).yl ?_
                      refine QOps.nil ?_
                      refine Run.cond rfl (fun hc12 => ?_) (fun hc12 => ?_)
                      · try replace hc12 := of_decide_eq_true hc12
                        obtain ⟨k, hO⟩ := odd hc12
                        have hOl := hO.lt
                        have hO8 := hO.len
                        have hg : areConsistentOf (ya3.take k ++ ya3.drop (k + 1)) yb3 = (true, true) := hO.good
                        rw [hO.is_]
                        dsimp only
                        refine Run.seq ?_
                        refine Run.capRow (i := 0) rfl (fun hcp => ?_)
                        refine Run.draws (fun H => H) (m := 11) (listed := #[false, false, false, false, false, false, false, false, false, false, false]) (by kernel_rfl) rfl rfl ?_
                        refine DOps.take (listed' := #[false, true, false, false, false, false, false, false, false, false, false]) 1 rfl (by kernel_rfl) rfl (List.Sublist.refl _) rfl rfl (Yv.move rfl) ?_
                        refine DOps.take (listed' := #[false, true, true, false, false, false, false, false, false, false, false]) 2 rfl (by kernel_rfl) rfl (List.Sublist.refl _) rfl rfl (Yv.move rfl) ?_
                        refine DOps.take (listed' := #[false, true, true, true, false, false, false, false, false, false, false]) 3 rfl (by kernel_rfl) rfl (List.Sublist.refl _) rfl rfl (Yv.cutTo0 k el25 rfl rfl rfl (by omega)) ?_
                        refine DOps.take (listed' := #[false, true, true, true, false, true, false, false, false, false, false]) 5 rfl (by kernel_rfl) rfl (List.Sublist.refl _) rfl rfl (Yv.move rfl) ?_
                        refine DOps.take (listed' := #[false, true, true, true, false, true, true, false, false, false, false]) 6 rfl (by kernel_rfl) rfl (List.Sublist.refl _) rfl rfl (Yv.move rfl) ?_
                        refine DOps.take (listed' := #[false, true, true, true, false, true, true, true, false, false, false]) 7 rfl (by kernel_rfl) rfl (List.Sublist.refl _) rfl rfl (Yv.succN rfl rfl (by omega)) ?_
                        refine DOps.take (listed' := #[false, true, true, true, false, true, true, true, true, false, false]) 8 rfl (by kernel_rfl) rfl (List.Sublist.refl _) rfl rfl (Yv.cutFrom (k + 1) el25 rfl rfl rfl (by omega)) ?_
                        refine DOps.only (listed' := #[true, true, true, true, false, true, true, true, true, false, false]) 0 rfl (by kernel_rfl) rfl rfl ?_
                        refine One.buildSliceG (pv := []) (cs := []) (fun _ => []) rfl el25 .nil rfl rfl (by kernel_rfl) rfl rfl (fun b3 => ?_)
                        refine ⟨(List.Sublist.cons _ (List.Sublist.refl _)), ?_⟩
                        refine DOps.only (listed' := #[true, true, true, true, true, true, true, true, true, false, false]) 4 rfl (by kernel_rfl) rfl rfl ?_
                        refine One.append (enc := Fix.enc) (l := ([] : List Fix)) (l2 := (ya3.take k)) (m' := k) (i := 0) (H' := fun A c => [_, _, _, _]) rfl el25 zero49 rfl (by decide) rfl rfl rfl (Rd.cut0 (xs := ya3) Fix.len (Rd.row (i := 1) rfl) (by omega)) (fun _ => rfl) (by simp) (by omega) (by omega) (fun _ _ => rfl) (fun A1 c1 => ?_)
                        refine ⟨(List.Sublist.cons _ (List.Sublist.refl _)), ?_⟩
                        refine DOps.only (listed' := #[true, true, true, true, true, true, true, true, true, true, false]) 9 rfl (by kernel_rfl) rfl rfl ?_
                        refine One.append (enc := Fix.enc) (l := (ya3.take k)) (l2 := (ya3.drop (k + 1))) (m' := (k + (ya3.length - (k + 1)))) (i := 0) (H' := fun A c => [_, _, _, _]) rfl el25 zero49 rfl (by decide) rfl rfl rfl (Rd.cutF (xs := ya3) Fix.len (Rd.row (i := 1) rfl) rfl (by omega)) (fun _ => rfl) rfl (by omega) (by omega) (fun _ _ => rfl) (fun A2 c2 => ?_)
                        refine ⟨(List.Sublist.cons _ (List.Sublist.refl _)), ?_⟩
                        refine DOps.take (listed' := #[true, true, true, true, true, true, true, true, true, true, true]) 10 rfl (by kernel_rfl) rfl (List.Sublist.cons _ (List.Sublist.refl _)) rfl rfl (Yv.assign rfl) ?_
                        refine DOps.done (by kernel_rfl) ?_
                        refine Run.seq ?_
                        refine Run.quiet (by intro h; cases h) ?_
                        refine QOps.st rfl rfl (Yv.move rfl).yl ?_
                        refine QOps.st rfl rfl (Yv.move rfl).yl ?_
                        refine QOps.st rfl rfl (Yl.call callable20 (.cons rfl (.cons rfl (.nil))) (fun w' hw' => AreConsistentN_spec (by first | rfl | exact without_len hOl) ((Rd.row (i := 0) rfl) w' hw'))) ?_
                        refine QOps.st rfl rfl (Yv.move rfl).yl ?_
                        refine QOps.st rfl rfl (Yv.extract rfl rfl).yl ?_
                        refine QOps.st rfl rfl (Yv.extract rfl rfl).yl ?_
                        refine QOps.st rfl rfl (Yv.assign rfl).yl ?_
                        refine QOps.st rfl rfl (Yv.assign rfl).yl ?_
                        refine QOps.nil ?_
                        refine Run.seq ?_
                        refine Run.quiet (by intro h; cases h) ?_
                        refine QOps.st rfl rfl (Yv.move rfl).yl ?_
                        refine QOps.st rfl rfl (Yv.move rfl).yl ?_
                        refine QOps.st rfl rfl (Yl.call callable20 (.cons rfl (.cons rfl (.nil))) (fun w' hw' => AreConsistentN_spec (by first | rfl | exact without_len hOl) ((Rd.row (i := 1) rfl) w' hw'))) ?_
                        refine QOps.st rfl rfl (Yv.move rfl).yl ?_
                        refine QOps.st rfl rfl (Yv.extract rfl rfl).yl ?_
                        refine QOps.st rfl rfl (Yv.extract rfl rfl).yl ?_
                        refine QOps.st rfl rfl (Yv.assign rfl).yl ?_
                        refine QOps.st rfl rfl (Yv.assign rfl).yl ?_
                        refine QOps.nil ?_
                        refine Run.seq ?_
                        refine Run.quiet (by intro h; cases h) ?_
                        refine QOps.st rfl rfl (Yv.move rfl).yl ?_
                        refine QOps.st rfl rfl (Yv.not rfl).yl ?_
                        refine QOps.st rfl rfl (Yv.move rfl).yl ?_
                        refine' QOps.or [_, _] _ (.tmp 232) rfl rfl rfl rfl rfl rfl (fun hg12 => ?_) ?_
                        rotate_left
                        · try replace hg12 := of_decide_eq_false hg12
                          first | (have hA1 := (hAd (not_f hg12)).2) | skip
                          refine QOps.st rfl rfl (Yv.move rfl).yl ?_
                          refine QOps.st rfl rfl (Yv.not rfl).yl ?_
                          exact QOps.nil rfl
                        refine QOps.st rfl rfl (Yv.move rfl).yl ?_
                        refine' QOps.or [_, _] _ (.tmp 236) rfl rfl rfl rfl rfl rfl (fun hg13 => ?_) ?_
                        rotate_left
                        · try replace hg13 := of_decide_eq_false hg13
                          first | (have hA1 := (hAd (not_f hg13)).2) | skip
                          refine QOps.st rfl rfl (Yv.move rfl).yl ?_
                          refine QOps.st rfl rfl (Yv.not rfl).yl ?_
                          exact QOps.nil rfl
                        refine QOps.st rfl rfl (Yv.move rfl).yl ?_
                        refine' QOps.or [_] _ (.tmp 239) rfl rfl rfl rfl rfl rfl (fun hg14 => ?_) ?_
                        rotate_left
                        · try replace hg14 := of_decide_eq_false hg14
                          first | (have hA1 := (hAd (not_f hg14)).2) | skip
                          refine QOps.st rfl rfl (Yv.move rfl).yl ?_
                          exact QOps.nil rfl
                        refine QOps.nil ?_
                        refine Run.cond rfl (fun hc13 => ?_) (fun hc13 => ?_)
                        · exfalso
                          simp [hg, hO.bad] at hc13
                        · try replace hc13 := of_decide_eq_false hc13
                          refine Run.skip ?_
                          refine Run.seq ?_
                          refine Run.ops ?_
                          refine SOps.st rfl rfl (Yv.move rfl).yl ?_
                          refine SOps.one rfl (One.callER rfl callable49 (.cons rfl (.nil)) (fun w' hw' => DrawAddFix_spec ((Rd.arg hs) w' hw')) ?_)
                          rintro ⟨ya4, yb4, yd4⟩ Aq4 cq4 hx4
                          try dsimp only at *
                          refine SOps.st rfl rfl (Yv.move rfl).yl ?_
                          refine SOps.st rfl rfl (Yv.extract rfl rfl).yl ?_
                          refine SOps.st rfl rfl (Yv.extract rfl rfl).yl ?_
                          refine SOps.st rfl rfl (Yv.extract rfl rfl).yl ?_
                          refine SOps.one rfl (One.alloc rfl zero49 (fun b4 => ?_))
                          refine SOps.st rfl rfl (Yv.assign rfl).yl ?_
                          refine SOps.one rfl (One.store (i := 0) (off := 0) (vs := [_, _, _]) (cs' := [_, _, _]) (H' := [_, _, _, _, _, _]) lay49 rfl rfl rfl rfl rfl rfl rfl rfl rfl rfl ?_)
                          refine SOps.st rfl rfl (Yv.assign rfl).yl ?_
                          refine SOps.nil ?_
                          refine Run.seq ?_
                          refine Run.ops ?_
                          refine SOps.st rfl rfl (Yv.move rfl).yl ?_
                          refine SOps.st rfl rfl (Yv.loadBs (i := 0) lay49 rfl rfl rfl rfl).yl ?_
                          refine SOps.st rfl rfl (Yv.move rfl).yl ?_
                          refine SOps.one rfl (One.callSub rfl callable34 (.cons rfl (.cons rfl (.cons rfl (.nil)))) (fun w' hw' => AddFix_spec ((Rd.row (i := 1) rfl) w' hw')) (fun A3 c3 => ?_))
                          refine SOps.st rfl rfl (Yv.move rfl).yl ?_
                          refine SOps.st rfl rfl (Yv.extract rfl rfl).yl ?_
                          refine SOps.st rfl rfl (Yv.extract rfl rfl).yl ?_
                          refine SOps.st rfl rfl (Yv.assign rfl).yl ?_
                          refine SOps.st rfl rfl (Yv.assign rfl).yl ?_
                          refine SOps.nil ?_
                          refine Run.seq ?_
                          refine Run.ops ?_
                          refine SOps.st rfl rfl (Yv.move rfl).yl ?_
                          refine SOps.st rfl rfl (Yv.loadBs (i := 1) lay49 rfl rfl rfl rfl).yl ?_
                          refine SOps.st rfl rfl (Yv.move rfl).yl ?_
                          refine SOps.one rfl (One.callRow rfl callable32 (.cons rfl (.cons rfl (.cons rfl (.nil)))) (fun w' hw' => sAddFix_spec ((Rd.row (i := 2) rfl) w' hw')) (fun A4 c4 => ?_))
                          refine SOps.st rfl rfl (Yv.move rfl).yl ?_
                          refine SOps.st rfl rfl (Yv.extract rfl rfl).yl ?_
                          refine SOps.st rfl rfl (Yv.extract rfl rfl).yl ?_
                          refine SOps.st rfl rfl (Yv.assign rfl).yl ?_
                          refine SOps.st rfl rfl (Yv.assign rfl).yl ?_
                          refine SOps.nil ?_
                          refine Run.seq ?_
                          have hMl := addM_len (fs := ya4) (f := yb4) (pace := yd4)
                          have hAd := fun h => add_last (fs := ya4) (f := yb4) (p := yd4) h
                          have hAe : (!addOk ya4 yb4 yd4 || eqC (Fix.enc (nth ((addM ya4 yb4 yd4).drop (addK2 ya4 yb4 yd4)) ((addM ya4 yb4 yd4).length - addK2 ya4 yb4 yd4 - 1))) [.int .i64 yb4.minute, .int .i64 yb4.place, .int .i64 yb4.error]) = true := by
                            rcases h : addOk ya4 yb4 yd4 with _ | _
                            · rfl
                            · rw [(hAd h).1]; simp [eqC, Fix.enc]
                          refine Run.quiet (fun _ => ⟨by kernel_rfl, by kernel_rfl⟩) ?_
                          refine QOps.st rfl rfl (Yv.move rfl).yl ?_
                          refine QOps.st rfl rfl (Yv.move rfl).yl ?_
                          refine QOps.st rfl rfl (Yv.eqB bool4 rfl rfl).yl ?_
                          refine QOps.st rfl rfl (Yv.move rfl).yl ?_
                          refine' QOps.and [_, _, _] _ (.tmp 267) rfl rfl rfl rfl rfl rfl (fun hg15 => ?_) ?_
                          rotate_left
                          · try replace hg15 := of_decide_eq_true hg15
                            first | (have hA1 := (hAd (not_f hg15)).2) | skip
                            refine QOps.st rfl rfl (Yv.move rfl).yl ?_
                            refine QOps.st rfl rfl (Yv.move rfl).yl ?_
                            refine QOps.st rfl rfl (Yl.call callable50 (.cons rfl (.cons rfl (.nil))) (fun w' hw' => vFixesAdd_spec ((Rd.cutF (xs := (addM ya4 yb4 yd4)) Fix.len (Rd.row (i := 1) rfl) rfl addK2_le) w' hw') ((Rd.row (i := 0) rfl) w' hw'))) ?_
                            exact QOps.nil rfl
                          refine QOps.st rfl rfl (Yv.move rfl).yl ?_
                          refine' QOps.and [_, _, _, _, _, _, _, _, _, _, _, _] _ (.tmp 281) rfl rfl rfl rfl rfl rfl (fun hg16 => ?_) ?_
                          rotate_left
                          · try replace hg16 := of_decide_eq_true hg16
                            first | (have hA1 := (hAd (not_f hg16)).2) | skip
                            refine QOps.st rfl rfl (Yv.move rfl).yl ?_
                            refine QOps.st rfl rfl (Yv.not rfl).yl ?_
                            refine QOps.st rfl rfl (Yv.move rfl).yl ?_
                            refine' QOps.or [_, _, _, _, _, _, _, _] _ (.tmp 280) rfl rfl rfl rfl rfl rfl (fun hg17 => ?_) ?_
                            rotate_left
                            · try replace hg17 := of_decide_eq_false hg17
                              first | (have hA1 := (hAd (not_f hg17)).2) | skip
                              refine QOps.st rfl rfl (Yv.move rfl).yl ?_
                              refine QOps.st rfl rfl (Yv.move rfl).yl ?_
                              refine QOps.st rfl rfl (Yv.lenS el25s rfl).yl ?_
                              refine QOps.st rfl rfl (Yv.sub rfl rfl (by omega)).yl ?_
                              refine QOps.st rfl rfl (Yv.indexAddr (((addM ya4 yb4 yd4).length - (addK2 ya4 yb4 yd4)) - 1) el25 rfl rfl (by omega) (Rd.cutF (xs := (addM ya4 yb4 yd4)) Fix.len (Rd.row (i := 1) rfl) rfl addK2_le) (by omega)).yl ?_
                              refine QOps.st rfl rfl (Yv.loadEs lay49 rfl Fix.len (Rd.cutF (xs := (addM ya4 yb4 yd4)) Fix.len (Rd.row (i := 1) rfl) rfl addK2_le) (by first | omega | (simp; omega)) (by decide)).yl ?_
                              refine QOps.st rfl rfl (Yv.loadBs (i := 2) lay49 rfl rfl rfl rfl).yl ?_
                              refine QOps.st rfl rfl (Yv.eqS scal49 rfl rfl rfl rfl).yl ?_
                              exact QOps.nil rfl
                            exact QOps.nil rfl
                          refine QOps.st rfl rfl (Yv.assign rfl).yl ?_
                          refine QOps.nil ?_
                          refine Run.ret ?_
                          refine retQ.of (.inr rfl) rfl (.tmp rfl .nil) (fun w' hw' => ?_)
                          refine ⟨?_, hw'.bel.below⟩
                          refine retB_eq ?_
                          rw [Bool.and_eq_true]
                          exact ⟨by simp, hAe⟩
                      · try replace hc12 := of_decide_eq_false hc12
                        refine Run.skip ?_
                        refine Run.seq ?_
                        refine Run.ops ?_
                        refine SOps.st rfl rfl (Yv.move rfl).yl ?_
                        refine SOps.one rfl (One.callER rfl callable49 (.cons rfl (.nil)) (fun w' hw' => DrawAddFix_spec ((Rd.arg hs) w' hw')) ?_)
                        rintro ⟨ya5, yb5, yd5⟩ Aq5 cq5 hx5
                        try dsimp only at *
                        refine SOps.st rfl rfl (Yv.move rfl).yl ?_
                        refine SOps.st rfl rfl (Yv.extract rfl rfl).yl ?_
                        refine SOps.st rfl rfl (Yv.extract rfl rfl).yl ?_
                        refine SOps.st rfl rfl (Yv.extract rfl rfl).yl ?_
                        refine SOps.one rfl (One.alloc rfl zero49 (fun b5 => ?_))
                        refine SOps.st rfl rfl (Yv.assign rfl).yl ?_
                        refine SOps.one rfl (One.store (i := 0) (off := 0) (vs := [_, _, _]) (cs' := [_, _, _]) (H' := [_, _, _, _, _]) lay49 rfl rfl rfl rfl rfl rfl rfl rfl rfl rfl ?_)
                        refine SOps.st rfl rfl (Yv.assign rfl).yl ?_
                        refine SOps.nil ?_
                        refine Run.seq ?_
                        refine Run.ops ?_
                        refine SOps.st rfl rfl (Yv.move rfl).yl ?_
                        refine SOps.st rfl rfl (Yv.loadBs (i := 0) lay49 rfl rfl rfl rfl).yl ?_
                        refine SOps.st rfl rfl (Yv.move rfl).yl ?_
                        refine SOps.one rfl (One.callSub rfl callable34 (.cons rfl (.cons rfl (.cons rfl (.nil)))) (fun w' hw' => AddFix_spec ((Rd.row (i := 1) rfl) w' hw')) (fun A5 c5 => ?_))
                        refine SOps.st rfl rfl (Yv.move rfl).yl ?_
                        refine SOps.st rfl rfl (Yv.extract rfl rfl).yl ?_
                        refine SOps.st rfl rfl (Yv.extract rfl rfl).yl ?_
                        refine SOps.st rfl rfl (Yv.assign rfl).yl ?_
                        refine SOps.st rfl rfl (Yv.assign rfl).yl ?_
                        refine SOps.nil ?_
                        refine Run.seq ?_
                        refine Run.ops ?_
                        refine SOps.st rfl rfl (Yv.move rfl).yl ?_
                        refine SOps.st rfl rfl (Yv.loadBs (i := 1) lay49 rfl rfl rfl rfl).yl ?_
                        refine SOps.st rfl rfl (Yv.move rfl).yl ?_
                        refine SOps.one rfl (One.callRow rfl callable32 (.cons rfl (.cons rfl (.cons rfl (.nil)))) (fun w' hw' => sAddFix_spec ((Rd.row (i := 2) rfl) w' hw')) (fun A6 c6 => ?_))
                        refine SOps.st rfl rfl (Yv.move rfl).yl ?_
                        refine SOps.st rfl rfl (Yv.extract rfl rfl).yl ?_
                        refine SOps.st rfl rfl (Yv.extract rfl rfl).yl ?_
                        refine SOps.st rfl rfl (Yv.assign rfl).yl ?_
                        refine SOps.st rfl rfl (Yv.assign rfl).yl ?_
                        refine SOps.nil ?_
                        refine Run.seq ?_
                        have hMl := addM_len (fs := ya5) (f := yb5) (pace := yd5)
                        have hAd := fun h => add_last (fs := ya5) (f := yb5) (p := yd5) h
                        have hAe : (!addOk ya5 yb5 yd5 || eqC (Fix.enc (nth ((addM ya5 yb5 yd5).drop (addK2 ya5 yb5 yd5)) ((addM ya5 yb5 yd5).length - addK2 ya5 yb5 yd5 - 1))) [.int .i64 yb5.minute, .int .i64 yb5.place, .int .i64 yb5.error]) = true := by
                          rcases h : addOk ya5 yb5 yd5 with _ | _
                          · rfl
                          · rw [(hAd h).1]; simp [eqC, Fix.enc]
                        refine Run.quiet (fun _ => ⟨by kernel_rfl, by kernel_rfl⟩) ?_
                        refine QOps.st rfl rfl (Yv.move rfl).yl ?_
                        refine QOps.st rfl rfl (Yv.move rfl).yl ?_
                        refine QOps.st rfl rfl (Yv.eqB bool4 rfl rfl).yl ?_
                        refine QOps.st rfl rfl (Yv.move rfl).yl ?_
                        refine' QOps.and [_, _, _] _ (.tmp 267) rfl rfl rfl rfl rfl rfl (fun hg18 => ?_) ?_
                        rotate_left
                        · try replace hg18 := of_decide_eq_true hg18
                          first | (have hA1 := (hAd (not_f hg18)).2) | skip
                          refine QOps.st rfl rfl (Yv.move rfl).yl ?_
                          refine QOps.st rfl rfl (Yv.move rfl).yl ?_
                          refine QOps.st rfl rfl (Yl.call callable50 (.cons rfl (.cons rfl (.nil))) (fun w' hw' => vFixesAdd_spec ((Rd.cutF (xs := (addM ya5 yb5 yd5)) Fix.len (Rd.row (i := 1) rfl) rfl addK2_le) w' hw') ((Rd.row (i := 0) rfl) w' hw'))) ?_
                          exact QOps.nil rfl
                        refine QOps.st rfl rfl (Yv.move rfl).yl ?_
                        refine' QOps.and [_, _, _, _, _, _, _, _, _, _, _, _] _ (.tmp 281) rfl rfl rfl rfl rfl rfl (fun hg19 => ?_) ?_
                        rotate_left
                        · try replace hg19 := of_decide_eq_true hg19
                          first | (have hA1 := (hAd (not_f hg19)).2) | skip
                          refine QOps.st rfl rfl (Yv.move rfl).yl ?_
                          refine QOps.st rfl rfl (Yv.not rfl).yl ?_
                          refine QOps.st rfl rfl (Yv.move rfl).yl ?_
                          refine' QOps.or [_, _, _, _, _, _, _, _] _ (.tmp 280) rfl rfl rfl rfl rfl rfl (fun hg20 => ?_) ?_
                          rotate_left
                          · try replace hg20 := of_decide_eq_false hg20
                            first | (have hA1 := (hAd (not_f hg20)).2) | skip
                            refine QOps.st rfl rfl (Yv.move rfl).yl ?_
                            refine QOps.st rfl rfl (Yv.move rfl).yl ?_
                            refine QOps.st rfl rfl (Yv.lenS el25s rfl).yl ?_
                            refine QOps.st rfl rfl (Yv.sub rfl rfl (by omega)).yl ?_
                            refine QOps.st rfl rfl (Yv.indexAddr (((addM ya5 yb5 yd5).length - (addK2 ya5 yb5 yd5)) - 1) el25 rfl rfl (by omega) (Rd.cutF (xs := (addM ya5 yb5 yd5)) Fix.len (Rd.row (i := 1) rfl) rfl addK2_le) (by omega)).yl ?_
                            refine QOps.st rfl rfl (Yv.loadEs lay49 rfl Fix.len (Rd.cutF (xs := (addM ya5 yb5 yd5)) Fix.len (Rd.row (i := 1) rfl) rfl addK2_le) (by first | omega | (simp; omega)) (by decide)).yl ?_
                            refine QOps.st rfl rfl (Yv.loadBs (i := 2) lay49 rfl rfl rfl rfl).yl ?_
                            refine QOps.st rfl rfl (Yv.eqS scal49 rfl rfl rfl rfl).yl ?_
                            exact QOps.nil rfl
                          exact QOps.nil rfl
                        refine QOps.st rfl rfl (Yv.assign rfl).yl ?_
                        refine QOps.nil ?_
                        refine Run.ret ?_
                        refine retQ.of (.inr rfl) rfl (.tmp rfl .nil) (fun w' hw' => ?_)
                        refine ⟨?_, hw'.bel.below⟩
                        refine retB_eq ?_
                        rw [Bool.and_eq_true]
                        exact ⟨by simp, hAe⟩
                · try replace hc9 := of_decide_eq_false hc9
                  refine Run.skip ?_
                  refine Run.seq ?_
                  refine Run.ops ?_
                  refine SOps.st rfl rfl (Yv.move rfl).yl ?_
                  refine SOps.one rfl (One.callER rfl callable48 (.cons rfl (.nil)) (fun w' hw' => DrawOddFix_spec ((Rd.arg hs) w' hw')) ?_)
                  rintro ⟨ya6, yb6⟩ Aq6 cq6 hx6
                  try dsimp only at *
                  refine SOps.st rfl rfl (Yv.move rfl).yl ?_
                  refine SOps.st rfl rfl (Yv.extract rfl rfl).yl ?_
                  refine SOps.st rfl rfl (Yv.extract rfl rfl).yl ?_
                  refine SOps.st rfl rfl (Yv.assign rfl).yl ?_
                  refine SOps.st rfl rfl (Yv.assign rfl).yl ?_
                  refine SOps.nil ?_
                  refine Run.seq ?_
                  refine Run.quiet (by intro h; cases h) ?_
                  refine QOps.st rfl rfl (Yv.move rfl).yl ?_
                  refine QOps.st rfl rfl (Yv.move rfl).yl ?_
                  refine QOps.st rfl rfl (Yl.call callable29 (.cons rfl (.cons rfl (.nil))) (fun w' hw' => OddFix_spec ((Rd.row (i := 0) rfl) w' hw'))) ?_
                  refine QOps.st rfl rfl (Yv.move rfl).yl ?_
                  refine QOps.st rfl rfl (Yv.extract rfl rfl).yl ?_
                  refine QOps.st rfl rfl (Yv.extract rfl rfl).yl ?_
                  refine QOps.st rfl rfl (Yv.assign rfl).yl ?_
                  refine QOps.st rfl rfl (Yv.assign rfl).yl ?_
                  refine QOps.nil ?_
                  refine Run.seq ?_
                  refine Run.seq ?_
                  refine Run.quiet (by intro h; cases h) ?_
                  refine QOps.st rfl rfl (Yv.move rfl).yl ?_
                  refine QOps.st rfl rfl (Yv.move rfl).yl ?_
                  refine QOps.st rfl rfl (Yl.call callable28 (.cons rfl (.cons rfl (.nil))) (fun w' hw' => sOddFix_spec ((Rd.row (i := 0) rfl) w' hw'))) ?_
                  refine QOps.st rfl rfl (Yv.move rfl).yl ?_
                  refine QOps.st rfl rfl (Yv.extract rfl rfl).yl ?_
                  refine QOps.st rfl rfl (Yv.extract rfl rfl).yl ?_
                  refine QOps.st rfl rfl (Yv.assign rfl).yl ?_
                  refine QOps.st rfl rfl (Yv.assign rfl).yl ?_
                  refine QOps.nil ?_
                  refine Run.seq ?_
                  refine Run.quiet (by intro h; cases h) ?_
                  refine QOps.st rfl rfl (Yv.move rfl).yl ?_
                  refine QOps.st rfl rfl (Yv.move rfl).yl ?_
                  refine QOps.st rfl rfl (Yv.neI rfl rfl).yl ?_
                  refine QOps.st rfl rfl (Yv.move rfl).yl ?_
                  refine' QOps.or [_, _, _] _ (.tmp 203) rfl rfl rfl rfl rfl rfl (fun hg21 => ?_) ?_
                  rotate_left
                  · try replace hg21 := of_decide_eq_false hg21
                    first | (have hA1 := (hAd (not_f hg21)).2) | skip
                    refine QOps.st rfl rfl (Yv.move rfl).yl ?_
                    refine QOps.st rfl rfl (Yv.move rfl).yl ?_
                    refine QOps.st rfl rfl (Yv.neB bool4 rfl rfl).yl ?_
                    exact QOps.nil rfl
                  refine QOps.nil ?_
                  refine Run.cond rfl (fun hc14 => ?_) (fun hc14 => ?_)
                  · exfalso
                    simp at hc14
                  · try replace hc14 := of_decide_eq_false hc14
                    refine Run.skip ?_
                    refine Run.seq ?_
                    refine Run.seq ?_
                    refine Run.quiet (by intro h; cases h) ?_
                    refine QOps.st rfl rfl (Yv.move rfl).yl ?_
                    refine QOps.nil ?_
                    refine Run.cond rfl (fun hc15 => ?_) (fun hc15 => ?_)
                    · try replace hc15 := of_decide_eq_true hc15
                      obtain ⟨k, hO⟩ := odd hc15
                      have hOl := hO.lt
                      have hO8 := hO.len
                      have hg : areConsistentOf (ya6.take k ++ ya6.drop (k + 1)) yb6 = (true, true) := hO.good
                      rw [hO.is_]
                      dsimp only
                      refine Run.seq ?_
                      refine Run.capRow (i := 0) rfl (fun hcp => ?_)
                      refine Run.draws (fun H => H) (m := 11) (listed := #[false, false, false, false, false, false, false, false, false, false, false]) (by kernel_rfl) rfl rfl ?_
                      refine DOps.take (listed' := #[false, true, false, false, false, false, false, false, false, false, false]) 1 rfl (by kernel_rfl) rfl (List.Sublist.refl _) rfl rfl (Yv.move rfl) ?_
                      refine DOps.take (listed' := #[false, true, true, false, false, false, false, false, false, false, false]) 2 rfl (by kernel_rfl) rfl (List.Sublist.refl _) rfl rfl (Yv.move rfl) ?_
                      refine DOps.take (listed' := #[false, true, true, true, false, false, false, false, false, false, false]) 3 rfl (by kernel_rfl) rfl (List.Sublist.refl _) rfl rfl (Yv.cutTo0 k el25 rfl rfl rfl (by omega)) ?_
                      refine DOps.take (listed' := #[false, true, true, true, false, true, false, false, false, false, false]) 5 rfl (by kernel_rfl) rfl (List.Sublist.refl _) rfl rfl (Yv.move rfl) ?_
                      refine DOps.take (listed' := #[false, true, true, true, false, true, true, false, false, false, false]) 6 rfl (by kernel_rfl) rfl (List.Sublist.refl _) rfl rfl (Yv.move rfl) ?_
                      refine DOps.take (listed' := #[false, true, true, true, false, true, true, true, false, false, false]) 7 rfl (by kernel_rfl) rfl (List.Sublist.refl _) rfl rfl (Yv.succN rfl rfl (by omega)) ?_
                      refine DOps.take (listed' := #[false, true, true, true, false, true, true, true, true, false, false]) 8 rfl (by kernel_rfl) rfl (List.Sublist.refl _) rfl rfl (Yv.cutFrom (k + 1) el25 rfl rfl rfl (by omega)) ?_
                      refine DOps.only (listed' := #[true, true, true, true, false, true, true, true, true, false, false]) 0 rfl (by kernel_rfl) rfl rfl ?_
                      refine One.buildSliceG (pv := []) (cs := []) (fun _ => []) rfl el25 .nil rfl rfl (by kernel_rfl) rfl rfl (fun b6 => ?_)
                      refine ⟨(List.Sublist.cons _ (List.Sublist.refl _)), ?_⟩
                      refine DOps.only (listed' := #[true, true, true, true, true, true, true, true, true, false, false]) 4 rfl (by kernel_rfl) rfl rfl ?_
                      refine One.append (enc := Fix.enc) (l := ([] : List Fix)) (l2 := (ya6.take k)) (m' := k) (i := 0) (H' := fun A c => [_, _, _, _]) rfl el25 zero49 rfl (by decide) rfl rfl rfl (Rd.cut0 (xs := ya6) Fix.len (Rd.row (i := 1) rfl) (by omega)) (fun _ => rfl) (by simp) (by omega) (by omega) (fun _ _ => rfl) (fun A7 c7 => ?_)
                      refine ⟨(List.Sublist.cons _ (List.Sublist.refl _)), ?_⟩
                      refine DOps.only (listed' := #[true, true, true, true, true, true, true, true, true, true, false]) 9 rfl (by kernel_rfl) rfl rfl ?_
                      refine One.append (enc := Fix.enc) (l := (ya6.take k)) (l2 := (ya6.drop (k + 1))) (m' := (k + (ya6.length - (k + 1)))) (i := 0) (H' := fun A c => [_, _, _, _]) rfl el25 zero49 rfl (by decide) rfl rfl rfl (Rd.cutF (xs := ya6) Fix.len (Rd.row (i := 1) rfl) rfl (by omega)) (fun _ => rfl) rfl (by omega) (by omega) (fun _ _ => rfl) (fun A8 c8 => ?_)
                      refine ⟨(List.Sublist.cons _ (List.Sublist.refl _)), ?_⟩
                      refine DOps.take (listed' := #[true, true, true, true, true, true, true, true, true, true, true]) 10 rfl (by kernel_rfl) rfl (List.Sublist.cons _ (List.Sublist.refl _)) rfl rfl (Yv.assign rfl) ?_
                      refine DOps.done (by kernel_rfl) ?_
                      refine Run.seq ?_
                      refine Run.quiet (by intro h; cases h) ?_
                      refine QOps.st rfl rfl (Yv.move rfl).yl ?_
                      refine QOps.st rfl rfl (Yv.move rfl).yl ?_
                      refine QOps.st rfl rfl (Yl.call callable20 (.cons rfl (.cons rfl (.nil))) (fun w' hw' => AreConsistentN_spec (by first | rfl | exact without_len hOl) ((Rd.row (i := 0) rfl) w' hw'))) ?_
                      refine QOps.st rfl rfl (Yv.move rfl).yl ?_
                      refine QOps.st rfl rfl (Yv.extract rfl rfl).yl ?_
                      refine QOps.st rfl rfl (Yv.extract rfl rfl).yl ?_
                      refine QOps.st rfl rfl (Yv.assign rfl).yl ?_
                      refine QOps.st rfl rfl (Yv.assign rfl).yl ?_
                      refine QOps.nil ?_
                      refine Run.seq ?_
                      refine Run.quiet (by intro h; cases h) ?_
                      refine QOps.st rfl rfl (Yv.move rfl).yl ?_
                      refine QOps.st rfl rfl (Yv.move rfl).yl ?_
                      refine QOps.st rfl rfl (Yl.call callable20 (.cons rfl (.cons rfl (.nil))) (fun w' hw' => AreConsistentN_spec (by first | rfl | exact without_len hOl) ((Rd.row (i := 1) rfl) w' hw'))) ?_
                      refine QOps.st rfl rfl (Yv.move rfl).yl ?_
                      refine QOps.st rfl rfl (Yv.extract rfl rfl).yl ?_
                      refine QOps.st rfl rfl (Yv.extract rfl rfl).yl ?_
                      refine QOps.st rfl rfl (Yv.assign rfl).yl ?_
                      refine QOps.st rfl rfl (Yv.assign rfl).yl ?_
                      refine QOps.nil ?_
                      refine Run.seq ?_
                      refine Run.quiet (by intro h; cases h) ?_
                      refine QOps.st rfl rfl (Yv.move rfl).yl ?_
                      refine QOps.st rfl rfl (Yv.not rfl).yl ?_
                      refine QOps.st rfl rfl (Yv.move rfl).yl ?_
                      refine' QOps.or [_, _] _ (.tmp 232) rfl rfl rfl rfl rfl rfl (fun hg22 => ?_) ?_
                      rotate_left
                      · try replace hg22 := of_decide_eq_false hg22
                        first | (have hA1 := (hAd (not_f hg22)).2) | skip
                        refine QOps.st rfl rfl (Yv.move rfl).yl ?_
                        refine QOps.st rfl rfl (Yv.not rfl).yl ?_
                        exact QOps.nil rfl
                      refine QOps.st rfl rfl (Yv.move rfl).yl ?_
                      refine' QOps.or [_, _] _ (.tmp 236) rfl rfl rfl rfl rfl rfl (fun hg23 => ?_) ?_
                      rotate_left
                      · try replace hg23 := of_decide_eq_false hg23
                        first | (have hA1 := (hAd (not_f hg23)).2) | skip
                        refine QOps.st rfl rfl (Yv.move rfl).yl ?_
                        refine QOps.st rfl rfl (Yv.not rfl).yl ?_
                        exact QOps.nil rfl
                      refine QOps.st rfl rfl (Yv.move rfl).yl ?_
                      refine' QOps.or [_] _ (.tmp 239) rfl rfl rfl rfl rfl rfl (fun hg24 => ?_) ?_
                      rotate_left
                      · try replace hg24 := of_decide_eq_false hg24
                        first | (have hA1 := (hAd (not_f hg24)).2) | skip
                        refine QOps.st rfl rfl (Yv.move rfl).yl ?_
                        exact QOps.nil rfl
                      refine QOps.nil ?_
                      refine Run.cond rfl (fun hc16 => ?_) (fun hc16 => ?_)
                      · exfalso
                        simp [hg, hO.bad] at hc16
                      · try replace hc16 := of_decide_eq_false hc16
                        refine Run.skip ?_
                        refine Run.seq ?_
                        refine Run.ops ?_
                        refine SOps.st rfl rfl (Yv.move rfl).yl ?_
                        refine SOps.one rfl (One.callER rfl callable49 (.cons rfl (.nil)) (fun w' hw' => DrawAddFix_spec ((Rd.arg hs) w' hw')) ?_)
                        rintro ⟨ya7, yb7, yd7⟩ Aq7 cq7 hx7
                        try dsimp only at *
                        refine SOps.st rfl rfl (Yv.move rfl).yl ?_
                        refine SOps.st rfl rfl (Yv.extract rfl rfl).yl ?_
                        refine SOps.st rfl rfl (Yv.extract rfl rfl).yl ?_
                        refine SOps.st rfl rfl (Yv.extract rfl rfl).yl ?_
                        refine SOps.one rfl (One.alloc rfl zero49 (fun b7 => ?_))
                        refine SOps.st rfl rfl (Yv.assign rfl).yl ?_
                        refine SOps.one rfl (One.store (i := 0) (off := 0) (vs := [_, _, _]) (cs' := [_, _, _]) (H' := [_, _, _, _, _, _]) lay49 rfl rfl rfl rfl rfl rfl rfl rfl rfl rfl ?_)
                        refine SOps.st rfl rfl (Yv.assign rfl).yl ?_
                        refine SOps.nil ?_
                        refine Run.seq ?_
                        refine Run.ops ?_
                        refine SOps.st rfl rfl (Yv.move rfl).yl ?_
                        refine SOps.st rfl rfl (Yv.loadBs (i := 0) lay49 rfl rfl rfl rfl).yl ?_
                        refine SOps.st rfl rfl (Yv.move rfl).yl ?_
                        refine SOps.one rfl (One.callSub rfl callable34 (.cons rfl (.cons rfl (.cons rfl (.nil)))) (fun w' hw' => AddFix_spec ((Rd.row (i := 1) rfl) w' hw')) (fun A9 c9 => ?_))
                        refine SOps.st rfl rfl (Yv.move rfl).yl ?_
                        refine SOps.st rfl rfl (Yv.extract rfl rfl).yl ?_
                        refine SOps.st rfl rfl (Yv.extract rfl rfl).yl ?_
                        refine SOps.st rfl rfl (Yv.assign rfl).yl ?_
                        refine SOps.st rfl rfl (Yv.assign rfl).yl ?_
                        refine SOps.nil ?_
                        refine Run.seq ?_
                        refine Run.ops ?_
                        refine SOps.st rfl rfl (Yv.move rfl).yl ?_
                        refine SOps.st rfl rfl (Yv.loadBs (i := 1) lay49 rfl rfl rfl rfl).yl ?_
                        refine SOps.st rfl rfl (Yv.move rfl).yl ?_
                        refine SOps.one rfl (One.callRow rfl callable32 (.cons rfl (.cons rfl (.cons rfl (.nil)))) (fun w' hw' => sAddFix_spec ((Rd.row (i := 2) rfl) w' hw')) (fun A10 c10 => ?_))
                        refine SOps.st rfl rfl (Yv.move rfl).yl ?_
                        refine SOps.st rfl rfl (Yv.extract rfl rfl).yl ?_
                        refine SOps.st rfl rfl (Yv.extract rfl rfl).yl ?_
                        refine SOps.st rfl rfl (Yv.assign rfl).yl ?_
                        refine SOps.st rfl rfl (Yv.assign rfl).yl ?_
                        refine SOps.nil ?_
                        refine Run.seq ?_
                        have hMl := addM_len (fs := ya7) (f := yb7) (pace := yd7)
                        have hAd := fun h => add_last (fs := ya7) (f := yb7) (p := yd7) h
                        have hAe : (!addOk ya7 yb7 yd7 || eqC (Fix.enc (nth ((addM ya7 yb7 yd7).drop (addK2 ya7 yb7 yd7)) ((addM ya7 yb7 yd7).length - addK2 ya7 yb7 yd7 - 1))) [.int .i64 yb7.minute, .int .i64 yb7.place, .int .i64 yb7.error]) = true := by
                          rcases h : addOk ya7 yb7 yd7 with _ | _
                          · rfl
                          · rw [(hAd h).1]; simp [eqC, Fix.enc]
                        refine Run.quiet (fun _ => ⟨by kernel_rfl, by kernel_rfl⟩) ?_
                        refine QOps.st rfl rfl (Yv.move rfl).yl ?_
                        refine QOps.st rfl rfl (Yv.move rfl).yl ?_
                        refine QOps.st rfl rfl (Yv.eqB bool4 rfl rfl).yl ?_
                        refine QOps.st rfl rfl (Yv.move rfl).yl ?_
                        refine' QOps.and [_, _, _] _ (.tmp 267) rfl rfl rfl rfl rfl rfl (fun hg25 => ?_) ?_
                        rotate_left
                        · try replace hg25 := of_decide_eq_true hg25
                          first | (have hA1 := (hAd (not_f hg25)).2) | skip
                          refine QOps.st rfl rfl (Yv.move rfl).yl ?_
                          refine QOps.st rfl rfl (Yv.move rfl).yl ?_
                          refine QOps.st rfl rfl (Yl.call callable50 (.cons rfl (.cons rfl (.nil))) (fun w' hw' => vFixesAdd_spec ((Rd.cutF (xs := (addM ya7 yb7 yd7)) Fix.len (Rd.row (i := 1) rfl) rfl addK2_le) w' hw') ((Rd.row (i := 0) rfl) w' hw'))) ?_
                          exact QOps.nil rfl
                        refine QOps.st rfl rfl (Yv.move rfl).yl ?_
                        refine' QOps.and [_, _, _, _, _, _, _, _, _, _, _, _] _ (.tmp 281) rfl rfl rfl rfl rfl rfl (fun hg26 => ?_) ?_
                        rotate_left
                        · try replace hg26 := of_decide_eq_true hg26
                          first | (have hA1 := (hAd (not_f hg26)).2) | skip
                          refine QOps.st rfl rfl (Yv.move rfl).yl ?_
                          refine QOps.st rfl rfl (Yv.not rfl).yl ?_
                          refine QOps.st rfl rfl (Yv.move rfl).yl ?_
                          refine' QOps.or [_, _, _, _, _, _, _, _] _ (.tmp 280) rfl rfl rfl rfl rfl rfl (fun hg27 => ?_) ?_
                          rotate_left
                          · try replace hg27 := of_decide_eq_false hg27
                            first | (have hA1 := (hAd (not_f hg27)).2) | skip
                            refine QOps.st rfl rfl (Yv.move rfl).yl ?_
                            refine QOps.st rfl rfl (Yv.move rfl).yl ?_
                            refine QOps.st rfl rfl (Yv.lenS el25s rfl).yl ?_
                            refine QOps.st rfl rfl (Yv.sub rfl rfl (by omega)).yl ?_
                            refine QOps.st rfl rfl (Yv.indexAddr (((addM ya7 yb7 yd7).length - (addK2 ya7 yb7 yd7)) - 1) el25 rfl rfl (by omega) (Rd.cutF (xs := (addM ya7 yb7 yd7)) Fix.len (Rd.row (i := 1) rfl) rfl addK2_le) (by omega)).yl ?_
                            refine QOps.st rfl rfl (Yv.loadEs lay49 rfl Fix.len (Rd.cutF (xs := (addM ya7 yb7 yd7)) Fix.len (Rd.row (i := 1) rfl) rfl addK2_le) (by first | omega | (simp; omega)) (by decide)).yl ?_
                            refine QOps.st rfl rfl (Yv.loadBs (i := 2) lay49 rfl rfl rfl rfl).yl ?_
                            refine QOps.st rfl rfl (Yv.eqS scal49 rfl rfl rfl rfl).yl ?_
                            exact QOps.nil rfl
                          exact QOps.nil rfl
                        refine QOps.st rfl rfl (Yv.assign rfl).yl ?_
                        refine QOps.nil ?_
                        refine Run.ret ?_
                        refine retQ.of (.inr rfl) rfl (.tmp rfl .nil) (fun w' hw' => ?_)
                        refine ⟨?_, hw'.bel.below⟩
                        refine retB_eq ?_
                        rw [Bool.and_eq_true]
                        exact ⟨by simp, hAe⟩
                    · try replace hc15 := of_decide_eq_false hc15
                      refine Run.skip ?_
                      refine Run.seq ?_
                      refine Run.ops ?_
                      refine SOps.st rfl rfl (Yv.move rfl).yl ?_
                      refine SOps.one rfl (One.callER rfl callable49 (.cons rfl (.nil)) (fun w' hw' => DrawAddFix_spec ((Rd.arg hs) w' hw')) ?_)
                      rintro ⟨ya8, yb8, yd8⟩ Aq8 cq8 hx8
                      try dsimp only at *
                      refine SOps.st rfl rfl (Yv.move rfl).yl ?_
                      refine SOps.st rfl rfl (Yv.extract rfl rfl).yl ?_
                      refine SOps.st rfl rfl (Yv.extract rfl rfl).yl ?_
                      refine SOps.st rfl rfl (Yv.extract rfl rfl).yl ?_
                      refine SOps.one rfl (One.alloc rfl zero49 (fun b8 => ?_))
                      refine SOps.st rfl rfl (Yv.assign rfl).yl ?_
                      refine SOps.one rfl (One.store (i := 0) (off := 0) (vs := [_, _, _]) (cs' := [_, _, _]) (H' := [_, _, _, _, _]) lay49 rfl rfl rfl rfl rfl rfl rfl rfl rfl rfl ?_)
                      refine SOps.st rfl rfl (Yv.assign rfl).yl ?_
                      refine SOps.nil ?_
                      refine Run.seq ?_
                      refine Run.ops ?_
                      refine SOps.st rfl rfl (Yv.move rfl).yl ?_
                      refine SOps.st rfl rfl (Yv.loadBs (i := 0) lay49 rfl rfl rfl rfl).yl ?_
                      refine SOps.st rfl rfl (Yv.move rfl).yl ?_
                      refine SOps.one rfl (One.callSub rfl callable34 (.cons rfl (.cons rfl (.cons rfl (.nil)))) (fun w' hw' => AddFix_spec ((Rd.row (i := 1) rfl) w' hw')) (fun A11 c11 => ?_))
                      refine SOps.st rfl rfl (Yv.move rfl).yl ?_
                      refine SOps.st rfl rfl (Yv.extract rfl rfl).yl ?_
                      refine SOps.st rfl rfl (Yv.extract rfl rfl).yl ?_
                      refine SOps.st rfl rfl (Yv.assign rfl).yl ?_
                      refine SOps.st rfl rfl (Yv.assign rfl).yl ?_
                      refine SOps.nil ?_
                      refine Run.seq ?_
                      refine Run.ops ?_
                      refine SOps.st rfl rfl (Yv.move rfl).yl ?_
                      refine SOps.st rfl rfl (Yv.loadBs (i := 1) lay49 rfl rfl rfl rfl).yl ?_
                      refine SOps.st rfl rfl (Yv.move rfl).yl ?_
                      refine SOps.one rfl (One.callRow rfl callable32 (.cons rfl (.cons rfl (.cons rfl (.nil)))) (fun w' hw' => sAddFix_spec ((Rd.row (i := 2) rfl) w' hw')) (fun A12 c12 => ?_))
                      refine SOps.st rfl rfl (Yv.move rfl).yl ?_
                      refine SOps.st rfl rfl (Yv.extract rfl rfl).yl ?_
                      refine SOps.st rfl rfl (Yv.extract rfl rfl).yl ?_
                      refine SOps.st rfl rfl (Yv.assign rfl).yl ?_
                      refine SOps.st rfl rfl (Yv.assign rfl).yl ?_
                      refine SOps.nil ?_
                      refine Run.seq ?_
                      have hMl := addM_len (fs := ya8) (f := yb8) (pace := yd8)
                      have hAd := fun h => add_last (fs := ya8) (f := yb8) (p := yd8) h
                      have hAe : (!addOk ya8 yb8 yd8 || eqC (Fix.enc (nth ((addM ya8 yb8 yd8).drop (addK2 ya8 yb8 yd8)) ((addM ya8 yb8 yd8).length - addK2 ya8 yb8 yd8 - 1))) [.int .i64 yb8.minute, .int .i64 yb8.place, .int .i64 yb8.error]) = true := by
                        rcases h : addOk ya8 yb8 yd8 with _ | _
                        · rfl
                        · rw [(hAd h).1]; simp [eqC, Fix.enc]
                      refine Run.quiet (fun _ => ⟨by kernel_rfl, by kernel_rfl⟩) ?_
                      refine QOps.st rfl rfl (Yv.move rfl).yl ?_
                      refine QOps.st rfl rfl (Yv.move rfl).yl ?_
                      refine QOps.st rfl rfl (Yv.eqB bool4 rfl rfl).yl ?_
                      refine QOps.st rfl rfl (Yv.move rfl).yl ?_
                      refine' QOps.and [_, _, _] _ (.tmp 267) rfl rfl rfl rfl rfl rfl (fun hg28 => ?_) ?_
                      rotate_left
                      · try replace hg28 := of_decide_eq_true hg28
                        first | (have hA1 := (hAd (not_f hg28)).2) | skip
                        refine QOps.st rfl rfl (Yv.move rfl).yl ?_
                        refine QOps.st rfl rfl (Yv.move rfl).yl ?_
                        refine QOps.st rfl rfl (Yl.call callable50 (.cons rfl (.cons rfl (.nil))) (fun w' hw' => vFixesAdd_spec ((Rd.cutF (xs := (addM ya8 yb8 yd8)) Fix.len (Rd.row (i := 1) rfl) rfl addK2_le) w' hw') ((Rd.row (i := 0) rfl) w' hw'))) ?_
                        exact QOps.nil rfl
                      refine QOps.st rfl rfl (Yv.move rfl).yl ?_
                      refine' QOps.and [_, _, _, _, _, _, _, _, _, _, _, _] _ (.tmp 281) rfl rfl rfl rfl rfl rfl (fun hg29 => ?_) ?_
                      rotate_left
                      · try replace hg29 := of_decide_eq_true hg29
                        first | (have hA1 := (hAd (not_f hg29)).2) | skip
                        refine QOps.st rfl rfl (Yv.move rfl).yl ?_
                        refine QOps.st rfl rfl (Yv.not rfl).yl ?_
                        refine QOps.st rfl rfl (Yv.move rfl).yl ?_
                        refine' QOps.or [_, _, _, _, _, _, _, _] _ (.tmp 280) rfl rfl rfl rfl rfl rfl (fun hg30 => ?_) ?_
                        rotate_left
                        · try replace hg30 := of_decide_eq_false hg30
                          first | (have hA1 := (hAd (not_f hg30)).2) | skip
                          refine QOps.st rfl rfl (Yv.move rfl).yl ?_
                          refine QOps.st rfl rfl (Yv.move rfl).yl ?_
                          refine QOps.st rfl rfl (Yv.lenS el25s rfl).yl ?_
                          refine QOps.st rfl rfl (Yv.sub rfl rfl (by omega)).yl ?_
                          refine QOps.st rfl rfl (Yv.indexAddr (((addM ya8 yb8 yd8).length - (addK2 ya8 yb8 yd8)) - 1) el25 rfl rfl (by omega) (Rd.cutF (xs := (addM ya8 yb8 yd8)) Fix.len (Rd.row (i := 1) rfl) rfl addK2_le) (by omega)).yl ?_
                          refine QOps.st rfl rfl (Yv.loadEs lay49 rfl Fix.len (Rd.cutF (xs := (addM ya8 yb8 yd8)) Fix.len (Rd.row (i := 1) rfl) rfl addK2_le) (by first | omega | (simp; omega)) (by decide)).yl ?_
                          refine QOps.st rfl rfl (Yv.loadBs (i := 2) lay49 rfl rfl rfl rfl).yl ?_
                          refine QOps.st rfl rfl (Yv.eqS scal49 rfl rfl rfl rfl).yl ?_
                          exact QOps.nil rfl
                        exact QOps.nil rfl
                      refine QOps.st rfl rfl (Yv.assign rfl).yl ?_
                      refine QOps.nil ?_
                      refine Run.ret ?_
                      refine retQ.of (.inr rfl) rfl (.tmp rfl .nil) (fun w' hw' => ?_)
                      refine ⟨?_, hw'.bel.below⟩
                      refine retB_eq ?_
                      rw [Bool.and_eq_true]
                      exact ⟨by simp, hAe⟩
      · try replace hc3 := of_decide_eq_false hc3
        refine Run.skip ?_
        refine Run.seq ?_
        refine Run.ops ?_
        refine SOps.st rfl rfl (Yv.move rfl).yl ?_
        refine SOps.one rfl (One.callER rfl callable47 (.cons rfl (.nil)) (fun w' hw' => DrawSlowestPace_spec ((Rd.arg hs) w' hw')) ?_)
        rintro ya9 Aq9 cq9 hx9
        try dsimp only at *
        refine SOps.st rfl rfl (Yv.assign rfl).yl ?_
        refine SOps.nil ?_
        refine Run.seq ?_
        refine Run.quiet (by intro h; cases h) ?_
        refine QOps.st rfl rfl (Yv.move rfl).yl ?_
        refine QOps.st rfl rfl (Yl.call callable22 (.cons rfl (.nil)) (fun w' hw' => SlowestPace_spec ((Rd.row (i := 0) rfl) w' hw'))) ?_
        refine QOps.st rfl rfl (Yv.move rfl).yl ?_
        refine QOps.st rfl rfl (Yv.extract rfl rfl).yl ?_
        refine QOps.st rfl rfl (Yv.extract rfl rfl).yl ?_
        refine QOps.st rfl rfl (Yv.assign rfl).yl ?_
        refine QOps.st rfl rfl (Yv.assign rfl).yl ?_
        refine QOps.nil ?_
        refine Run.seq ?_
        refine Run.seq ?_
        refine Run.quiet (by intro h; cases h) ?_
        refine QOps.st rfl rfl (Yv.move rfl).yl ?_
        refine QOps.st rfl rfl (Yl.call callable21 (.cons rfl (.nil)) (fun w' hw' => sSlowestPace_spec ((Rd.row (i := 0) rfl) w' hw'))) ?_
        refine QOps.st rfl rfl (Yv.move rfl).yl ?_
        refine QOps.st rfl rfl (Yv.extract rfl rfl).yl ?_
        refine QOps.st rfl rfl (Yv.extract rfl rfl).yl ?_
        refine QOps.st rfl rfl (Yv.assign rfl).yl ?_
        refine QOps.st rfl rfl (Yv.assign rfl).yl ?_
        refine QOps.nil ?_
        refine Run.seq ?_
        refine Run.quiet (by intro h; cases h) ?_
        refine QOps.st rfl rfl (Yv.move rfl).yl ?_
        refine QOps.st rfl rfl (Yv.move rfl).yl ?_
        refine QOps.st rfl rfl (Yv.neI rfl rfl).yl ?_
        refine QOps.st rfl rfl (Yv.move rfl).yl ?_
        refine' QOps.or [_, _, _] _ (.tmp 152) rfl rfl rfl rfl rfl rfl (fun hg31 => ?_) ?_
        rotate_left
        · try replace hg31 := of_decide_eq_false hg31
          first | (have hA1 := (hAd (not_f hg31)).2) | skip
          refine QOps.st rfl rfl (Yv.move rfl).yl ?_
          refine QOps.st rfl rfl (Yv.move rfl).yl ?_
          refine QOps.st rfl rfl (Yv.neB bool4 rfl rfl).yl ?_
          exact QOps.nil rfl
        refine QOps.nil ?_
        refine Run.cond rfl (fun hc17 => ?_) (fun hc17 => ?_)
        · exfalso
          simp at hc17
        · try replace hc17 := of_decide_eq_false hc17
          refine Run.skip ?_
          refine Run.seq ?_
          refine Run.seq ?_
          refine Run.quiet (by intro h; cases h) ?_
          refine QOps.st rfl rfl (Yv.move rfl).yl ?_
          refine QOps.nil ?_
          refine Run.cond rfl (fun hc18 => ?_) (fun hc18 => ?_)
          · try replace hc18 := of_decide_eq_true hc18
            have hS := slow hc18
            have hSb := hS.bnd
            refine Run.seq ?_
            refine Run.quiet (by intro h; cases h) ?_
            refine QOps.st rfl rfl (Yv.move rfl).yl ?_
            refine QOps.st rfl rfl (Yv.move rfl).yl ?_
            refine QOps.st rfl rfl (Yl.call callable20 (.cons rfl (.cons rfl (.nil))) (fun w' hw' => AreConsistentN_spec (by first | rfl | exact without_len hOl) ((Rd.row (i := 0) rfl) w' hw'))) ?_
            refine QOps.st rfl rfl (Yv.move rfl).yl ?_
            refine QOps.st rfl rfl (Yv.extract rfl rfl).yl ?_
            refine QOps.st rfl rfl (Yv.extract rfl rfl).yl ?_
            refine QOps.st rfl rfl (Yv.assign rfl).yl ?_
            refine QOps.st rfl rfl (Yv.assign rfl).yl ?_
            refine QOps.nil ?_
            refine Run.seq ?_
            refine Run.quiet (by intro h; cases h) ?_
            refine QOps.st rfl rfl (Yv.move rfl).yl ?_
            refine QOps.st rfl rfl (Yv.move rfl).yl ?_
            refine QOps.st rfl rfl (Yv.sub rfl rfl (by omega)).yl ?_
            refine QOps.st rfl rfl (Yl.call callable20 (.cons rfl (.cons rfl (.nil))) (fun w' hw' => AreConsistentN_spec (by first | rfl | exact without_len hOl) ((Rd.row (i := 0) rfl) w' hw'))) ?_
            refine QOps.st rfl rfl (Yv.move rfl).yl ?_
            refine QOps.st rfl rfl (Yv.extract rfl rfl).yl ?_
            refine QOps.st rfl rfl (Yv.extract rfl rfl).yl ?_
            refine QOps.st rfl rfl (Yv.assign rfl).yl ?_
            refine QOps.st rfl rfl (Yv.assign rfl).yl ?_
            refine QOps.nil ?_
            refine Run.seq ?_
            refine Run.quiet (by intro h; cases h) ?_
            refine QOps.st rfl rfl (Yv.move rfl).yl ?_
            refine QOps.st rfl rfl (Yv.not rfl).yl ?_
            refine QOps.st rfl rfl (Yv.move rfl).yl ?_
            refine' QOps.or [_, _] _ (.tmp 172) rfl rfl rfl rfl rfl rfl (fun hg32 => ?_) ?_
            rotate_left
            · try replace hg32 := of_decide_eq_false hg32
              first | (have hA1 := (hAd (not_f hg32)).2) | skip
              refine QOps.st rfl rfl (Yv.move rfl).yl ?_
              refine QOps.st rfl rfl (Yv.not rfl).yl ?_
              exact QOps.nil rfl
            refine QOps.st rfl rfl (Yv.move rfl).yl ?_
            refine' QOps.or [_, _, _, _] _ (.tmp 178) rfl rfl rfl rfl rfl rfl (fun hg33 => ?_) ?_
            rotate_left
            · try replace hg33 := of_decide_eq_false hg33
              first | (have hA1 := (hAd (not_f hg33)).2) | skip
              refine QOps.st rfl rfl (Yv.move rfl).yl ?_
              refine QOps.st rfl rfl (Yv.move rfl).yl ?_
              refine' QOps.and [_] _ (.tmp 177) rfl rfl rfl rfl rfl rfl (fun hg34 => ?_) ?_
              rotate_left
              · try replace hg34 := of_decide_eq_true hg34
                first | (have hA1 := (hAd (not_f hg34)).2) | skip
                refine QOps.st rfl rfl (Yv.move rfl).yl ?_
                exact QOps.nil rfl
              exact QOps.nil rfl
            refine QOps.nil ?_
            refine Run.cond rfl (fun hc19 => ?_) (fun hc19 => ?_)
            · exfalso
              simp [hS.is_] at hc19
              exact absurd (hS.less hc19.1) (by rw [hc19.2]; simp)
            · try replace hc19 := of_decide_eq_false hc19
              refine Run.skip ?_
              refine Run.seq ?_
              refine Run.ops ?_
              refine SOps.st rfl rfl (Yv.move rfl).yl ?_
              refine SOps.one rfl (One.callER rfl callable48 (.cons rfl (.nil)) (fun w' hw' => DrawOddFix_spec ((Rd.arg hs) w' hw')) ?_)
              rintro ⟨ya10, yb10⟩ Aq10 cq10 hx10
              try dsimp only at *
              refine SOps.st rfl rfl (Yv.move rfl).yl ?_
              refine SOps.st rfl rfl (Yv.extract rfl rfl).yl ?_
              refine SOps.st rfl rfl (Yv.extract rfl rfl).yl ?_
              refine SOps.st rfl rfl (Yv.assign rfl).yl ?_
              refine SOps.st rfl rfl (Yv.assign rfl).yl ?_
              refine SOps.nil ?_
              refine Run.seq ?_
              refine Run.quiet (by intro h; cases h) ?_
              refine QOps.st rfl rfl (Yv.move rfl).yl ?_
              refine QOps.st rfl rfl (Yv.move rfl).yl ?_
              refine QOps.st rfl rfl (Yl.call callable29 (.cons rfl (.cons rfl (.nil))) (fun w' hw' => OddFix_spec ((Rd.row (i := 0) rfl) w' hw'))) ?_
              refine QOps.st rfl rfl (Yv.move rfl).yl ?_
              refine QOps.st rfl rfl (Yv.extract rfl rfl).yl ?_
              refine QOps.st rfl rfl (Yv.extract rfl rfl).yl ?_
              refine QOps.st rfl rfl (Yv.assign rfl).yl ?_
              refine QOps.st rfl rfl (Yv.assign rfl).yl ?_
              refine QOps.nil ?_
              refine Run.seq ?_
              refine Run.seq ?_
              refine Run.quiet (by intro h; cases h) ?_
              refine QOps.st rfl rfl (Yv.move rfl).yl ?_
              refine QOps.st rfl rfl (Yv.move rfl).yl ?_
              refine QOps.st rfl rfl (Yl.call callable28 (.cons rfl (.cons rfl (.nil))) (fun w' hw' => sOddFix_spec ((Rd.row (i := 0) rfl) w' hw'))) ?_
              refine QOps.st rfl rfl (Yv.move rfl).yl ?_
              refine QOps.st rfl rfl (Yv.extract rfl rfl).yl ?_
              refine QOps.st rfl rfl (Yv.extract rfl rfl).yl ?_
              refine QOps.st rfl rfl (Yv.assign rfl).yl ?_
              refine QOps.st rfl rfl (Yv.assign rfl).yl ?_
              refine QOps.nil ?_
              refine Run.seq ?_
              refine Run.quiet (by intro h; cases h) ?_
              refine QOps.st rfl rfl (Yv.move rfl).yl ?_
              refine QOps.st rfl rfl (Yv.move rfl).yl ?_
              refine QOps.st rfl rfl (Yv.neI rfl rfl).yl ?_
              refine QOps.st rfl rfl (Yv.move rfl).yl ?_
              refine' QOps.or [_, _, _] _ (.tmp 203) rfl rfl rfl rfl rfl rfl (fun hg35 => ?_) ?_
              rotate_left
              · try replace hg35 := of_decide_eq_false hg35
                first | (have hA1 := (hAd (not_f hg35)).2) | skip
                refine QOps.st rfl rfl (Yv.move rfl).yl ?_
                refine QOps.st rfl rfl (Yv.move rfl).yl ?_
                refine QOps.st rfl rfl (Yv.neB bool4 rfl rfl).yl ?_
                exact QOps.nil rfl
              refine QOps.nil ?_
              refine Run.cond rfl (fun hc20 => ?_) (fun hc20 => ?_)
              · exfalso
                simp at hc20
              · try replace hc20 := of_decide_eq_false hc20
                refine Run.skip ?_
                refine Run.seq ?_
                refine Run.seq ?_
                refine Run.quiet (by intro h; cases h) ?_
                refine QOps.st rfl rfl (Yv.move rfl).yl ?_
                refine QOps.nil ?_
                refine Run.cond rfl (fun hc21 => ?_) (fun hc21 => ?_)
                · try replace hc21 := of_decide_eq_true hc21
                  obtain ⟨k, hO⟩ := odd hc21
                  have hOl := hO.lt
                  have hO8 := hO.len
                  have hg : areConsistentOf (ya10.take k ++ ya10.drop (k + 1)) yb10 = (true, true) := hO.good
                  rw [hO.is_]
                  dsimp only
                  refine Run.seq ?_
                  refine Run.capRow (i := 0) rfl (fun hcp => ?_)
                  refine Run.draws (fun H => H) (m := 11) (listed := #[false, false, false, false, false, false, false, false, false, false, false]) (by kernel_rfl) rfl rfl ?_
                  refine DOps.take (listed' := #[false, true, false, false, false, false, false, false, false, false, false]) 1 rfl (by kernel_rfl) rfl (List.Sublist.refl _) rfl rfl (Yv.move rfl) ?_
                  refine DOps.take (listed' := #[false, true, true, false, false, false, false, false, false, false, false]) 2 rfl (by kernel_rfl) rfl (List.Sublist.refl _) rfl rfl (Yv.move rfl) ?_
                  refine DOps.take (listed' := #[false, true, true, true, false, false, false, false, false, false, false]) 3 rfl (by kernel_rfl) rfl (List.Sublist.refl _) rfl rfl (Yv.cutTo0 k el25 rfl rfl rfl (by omega)) ?_
                  refine DOps.take (listed' := #[false, true, true, true, false, true, false, false, false, false, false]) 5 rfl (by kernel_rfl) rfl (List.Sublist.refl _) rfl rfl (Yv.move rfl) ?_
                  refine DOps.take (listed' := #[false, true, true, true, false, true, true, false, false, false, false]) 6 rfl (by kernel_rfl) rfl (List.Sublist.refl _) rfl rfl (Yv.move rfl) ?_
                  refine DOps.take (listed' := #[false, true, true, true, false, true, true, true, false, false, false]) 7 rfl (by kernel_rfl) rfl (List.Sublist.refl _) rfl rfl (Yv.succN rfl rfl (by omega)) ?_
                  refine DOps.take (listed' := #[false, true, true, true, false, true, true, true, true, false, false]) 8 rfl (by kernel_rfl) rfl (List.Sublist.refl _) rfl rfl (Yv.cutFrom (k + 1) el25 rfl rfl rfl (by omega)) ?_
                  refine DOps.only (listed' := #[true, true, true, true, false, true, true, true, true, false, false]) 0 rfl (by kernel_rfl) rfl rfl ?_
                  refine One.buildSliceG (pv := []) (cs := []) (fun _ => []) rfl el25 .nil rfl rfl (by kernel_rfl) rfl rfl (fun b9 => ?_)
                  refine ⟨(List.Sublist.cons _ (List.Sublist.refl _)), ?_⟩
                  refine DOps.only (listed' := #[true, true, true, true, true, true, true, true, true, false, false]) 4 rfl (by kernel_rfl) rfl rfl ?_
                  refine One.append (enc := Fix.enc) (l := ([] : List Fix)) (l2 := (ya10.take k)) (m' := k) (i := 0) (H' := fun A c => [_, _, _, _]) rfl el25 zero49 rfl (by decide) rfl rfl rfl (Rd.cut0 (xs := ya10) Fix.len (Rd.row (i := 1) rfl) (by omega)) (fun _ => rfl) (by simp) (by omega) (by omega) (fun _ _ => rfl) (fun A13 c13 => ?_)
                  refine ⟨(List.Sublist.cons _ (List.Sublist.refl _)), ?_⟩
                  refine DOps.only (listed' := #[true, true, true, true, true, true, true, true, true, true, false]) 9 rfl (by kernel_rfl) rfl rfl ?_
                  refine One.append (enc := Fix.enc) (l := (ya10.take k)) (l2 := (ya10.drop (k + 1))) (m' := (k + (ya10.length - (k + 1)))) (i := 0) (H' := fun A c => [_, _, _, _]) rfl el25 zero49 rfl (by decide) rfl rfl rfl (Rd.cutF (xs := ya10) Fix.len (Rd.row (i := 1) rfl) rfl (by omega)) (fun _ => rfl) rfl (by omega) (by omega) (fun _ _ => rfl) (fun A14 c14 => ?_)
                  refine ⟨(List.Sublist.cons _ (List.Sublist.refl _)), ?_⟩
                  refine DOps.take (listed' := #[true, true, true, true, true, true, true, true, true, true, true]) 10 rfl (by kernel_rfl) rfl (List.Sublist.cons _ (List.Sublist.refl _)) rfl rfl (Yv.assign rfl) ?_
                  refine DOps.done (by kernel_rfl) ?_
                  refine Run.seq ?_
                  refine Run.quiet (by intro h; cases h) ?_
                  refine QOps.st rfl rfl (Yv.move rfl).yl ?_
                  refine QOps.st rfl rfl (Yv.move rfl).yl ?_
                  refine QOps.st rfl rfl (Yl.call callable20 (.cons rfl (.cons rfl (.nil))) (fun w' hw' => AreConsistentN_spec (by first | rfl | exact without_len hOl) ((Rd.row (i := 0) rfl) w' hw'))) ?_
                  refine QOps.st rfl rfl (Yv.move rfl).yl ?_
                  refine QOps.st rfl rfl (Yv.extract rfl rfl).yl ?_
                  refine QOps.st rfl rfl (Yv.extract rfl rfl).yl ?_
                  refine QOps.st rfl rfl (Yv.assign rfl).yl ?_
                  refine QOps.st rfl rfl (Yv.assign rfl).yl ?_
                  refine QOps.nil ?_
                  refine Run.seq ?_
                  refine Run.quiet (by intro h; cases h) ?_
                  refine QOps.st rfl rfl (Yv.move rfl).yl ?_
                  refine QOps.st rfl rfl (Yv.move rfl).yl ?_
                  refine QOps.st rfl rfl (Yl.call callable20 (.cons rfl (.cons rfl (.nil))) (fun w' hw' => AreConsistentN_spec (by first | rfl | exact without_len hOl) ((Rd.row (i := 1) rfl) w' hw'))) ?_
                  refine QOps.st rfl rfl (Yv.move rfl).yl ?_
                  refine QOps.st rfl rfl (Yv.extract rfl rfl).yl ?_
                  refine QOps.st rfl rfl (Yv.extract rfl rfl).yl ?_
                  refine QOps.st rfl rfl (Yv.assign rfl).yl ?_
                  refine QOps.st rfl rfl (Yv.assign rfl).yl ?_
                  refine QOps.nil ?_
                  refine Run.seq ?_
                  refine Run.quiet (by intro h; cases h) ?_
                  refine QOps.st rfl rfl (Yv.move rfl).yl ?_
                  refine QOps.st rfl rfl (Yv.not rfl).yl ?_
                  refine QOps.st rfl rfl (Yv.move rfl).yl ?_
                  refine' QOps.or [_, _] _ (.tmp 232) rfl rfl rfl rfl rfl rfl (fun hg36 => ?_) ?_
                  rotate_left
                  · try replace hg36 := of_decide_eq_false hg36
                    first | (have hA1 := (hAd (not_f hg36)).2) | skip
                    refine QOps.st rfl rfl (Yv.move rfl).yl ?_
                    refine QOps.st rfl rfl (Yv.not rfl).yl ?_
                    exact QOps.nil rfl
                  refine QOps.st rfl rfl (Yv.move rfl).yl ?_
                  refine' QOps.or [_, _] _ (.tmp 236) rfl rfl rfl rfl rfl rfl (fun hg37 => ?_) ?_
                  rotate_left
                  · try replace hg37 := of_decide_eq_false hg37
                    first | (have hA1 := (hAd (not_f hg37)).2) | skip
                    refine QOps.st rfl rfl (Yv.move rfl).yl ?_
                    refine QOps.st rfl rfl (Yv.not rfl).yl ?_
                    exact QOps.nil rfl
                  refine QOps.st rfl rfl (Yv.move rfl).yl ?_
                  refine' QOps.or [_] _ (.tmp 239) rfl rfl rfl rfl rfl rfl (fun hg38 => ?_) ?_
                  rotate_left
                  · try replace hg38 := of_decide_eq_false hg38
                    first | (have hA1 := (hAd (not_f hg38)).2) | skip
                    refine QOps.st rfl rfl (Yv.move rfl).yl ?_
                    exact QOps.nil rfl
                  refine QOps.nil ?_
                  refine Run.cond rfl (fun hc22 => ?_) (fun hc22 => ?_)
                  · exfalso
                    simp [hg, hO.bad] at hc22
                  · try replace hc22 := of_decide_eq_false hc22
                    refine Run.skip ?_
                    refine Run.seq ?_
                    refine Run.ops ?_
                    refine SOps.st rfl rfl (Yv.move rfl).yl ?_
                    refine SOps.one rfl (One.callER rfl callable49 (.cons rfl (.nil)) (fun w' hw' => DrawAddFix_spec ((Rd.arg hs) w' hw')) ?_)
                    rintro ⟨ya11, yb11, yd11⟩ Aq11 cq11 hx11
                    try dsimp only at *
                    refine SOps.st rfl rfl (Yv.move rfl).yl ?_
                    refine SOps.st rfl rfl (Yv.extract rfl rfl).yl ?_
                    refine SOps.st rfl rfl (Yv.extract rfl rfl).yl ?_
                    refine SOps.st rfl rfl (Yv.extract rfl rfl).yl ?_
                    refine SOps.one rfl (One.alloc rfl zero49 (fun b10 => ?_))
                    refine SOps.st rfl rfl (Yv.assign rfl).yl ?_
                    refine SOps.one rfl (One.store (i := 0) (off := 0) (vs := [_, _, _]) (cs' := [_, _, _]) (H' := [_, _, _, _, _, _]) lay49 rfl rfl rfl rfl rfl rfl rfl rfl rfl rfl ?_)
                    refine SOps.st rfl rfl (Yv.assign rfl).yl ?_
                    refine SOps.nil ?_
                    refine Run.seq ?_
                    refine Run.ops ?_
                    refine SOps.st rfl rfl (Yv.move rfl).yl ?_
                    refine SOps.st rfl rfl (Yv.loadBs (i := 0) lay49 rfl rfl rfl rfl).yl ?_
                    refine SOps.st rfl rfl (Yv.move rfl).yl ?_
                    refine SOps.one rfl (One.callSub rfl callable34 (.cons rfl (.cons rfl (.cons rfl (.nil)))) (fun w' hw' => AddFix_spec ((Rd.row (i := 1) rfl) w' hw')) (fun A15 c15 => ?_))
                    refine SOps.st rfl rfl (Yv.move rfl).yl ?_
                    refine SOps.st rfl rfl (Yv.extract rfl rfl).yl ?_
                    refine SOps.st rfl rfl (Yv.extract rfl rfl).yl ?_
                    refine SOps.st rfl rfl (Yv.assign rfl).yl ?_
                    refine SOps.st rfl rfl (Yv.assign rfl).yl ?_
                    refine SOps.nil ?_
                    refine Run.seq ?_
                    refine Run.ops ?_
                    refine SOps.st rfl rfl (Yv.move rfl).yl ?_
                    refine SOps.st rfl rfl (Yv.loadBs (i := 1) lay49 rfl rfl rfl rfl).yl ?_
                    refine SOps.st rfl rfl (Yv.move rfl).yl ?_
                    refine SOps.one rfl (One.callRow rfl callable32 (.cons rfl (.cons rfl (.cons rfl (.nil)))) (fun w' hw' => sAddFix_spec ((Rd.row (i := 2) rfl) w' hw')) (fun A16 c16 => ?_))
                    refine SOps.st rfl rfl (Yv.move rfl).yl ?_
                    refine SOps.st rfl rfl (Yv.extract rfl rfl).yl ?_
                    refine SOps.st rfl rfl (Yv.extract rfl rfl).yl ?_
                    refine SOps.st rfl rfl (Yv.assign rfl).yl ?_
                    refine SOps.st rfl rfl (Yv.assign rfl).yl ?_
                    refine SOps.nil ?_
                    refine Run.seq ?_
                    have hMl := addM_len (fs := ya11) (f := yb11) (pace := yd11)
                    have hAd := fun h => add_last (fs := ya11) (f := yb11) (p := yd11) h
                    have hAe : (!addOk ya11 yb11 yd11 || eqC (Fix.enc (nth ((addM ya11 yb11 yd11).drop (addK2 ya11 yb11 yd11)) ((addM ya11 yb11 yd11).length - addK2 ya11 yb11 yd11 - 1))) [.int .i64 yb11.minute, .int .i64 yb11.place, .int .i64 yb11.error]) = true := by
                      rcases h : addOk ya11 yb11 yd11 with _ | _
                      · rfl
                      · rw [(hAd h).1]; simp [eqC, Fix.enc]
                    refine Run.quiet (fun _ => ⟨by kernel_rfl, by kernel_rfl⟩) ?_
                    refine QOps.st rfl rfl (Yv.move rfl).yl ?_
                    refine QOps.st rfl rfl (Yv.move rfl).yl ?_
                    refine QOps.st rfl rfl (Yv.eqB bool4 rfl rfl).yl ?_
                    refine QOps.st rfl rfl (Yv.move rfl).yl ?_
                    refine' QOps.and [_, _, _] _ (.tmp 267) rfl rfl rfl rfl rfl rfl (fun hg39 => ?_) ?_
                    rotate_left
                    · try replace hg39 := of_decide_eq_true hg39
                      first | (have hA1 := (hAd (not_f hg39)).2) | skip
                      refine QOps.st rfl rfl (Yv.move rfl).yl ?_
                      refine QOps.st rfl rfl (Yv.move rfl).yl ?_
                      refine QOps.st rfl rfl (Yl.call callable50 (.cons rfl (.cons rfl (.nil))) (fun w' hw' => vFixesAdd_spec ((Rd.cutF (xs := (addM ya11 yb11 yd11)) Fix.len (Rd.row (i := 1) rfl) rfl addK2_le) w' hw') ((Rd.row (i := 0) rfl) w' hw'))) ?_
                      exact QOps.nil rfl
                    refine QOps.st rfl rfl (Yv.move rfl).yl ?_
                    refine' QOps.and [_, _, _, _, _, _, _, _, _, _, _, _] _ (.tmp 281) rfl rfl rfl rfl rfl rfl (fun hg40 => ?_) ?_
                    rotate_left
                    · try replace hg40 := of_decide_eq_true hg40
                      first | (have hA1 := (hAd (not_f hg40)).2) | skip
                      refine QOps.st rfl rfl (Yv.move rfl).yl ?_
                      refine QOps.st rfl rfl (Yv.not rfl).yl ?_
                      refine QOps.st rfl rfl (Yv.move rfl).yl ?_
                      refine' QOps.or [_, _, _, _, _, _, _, _] _ (.tmp 280) rfl rfl rfl rfl rfl rfl (fun hg41 => ?_) ?_
                      rotate_left
                      · try replace hg41 := of_decide_eq_false hg41
                        first | (have hA1 := (hAd (not_f hg41)).2) | skip
                        refine QOps.st rfl rfl (Yv.move rfl).yl ?_
                        refine QOps.st rfl rfl (Yv.move rfl).yl ?_
                        refine QOps.st rfl rfl (Yv.lenS el25s rfl).yl ?_
                        refine QOps.st rfl rfl (Yv.sub rfl rfl (by omega)).yl ?_
                        refine QOps.st rfl rfl (Yv.indexAddr (((addM ya11 yb11 yd11).length - (addK2 ya11 yb11 yd11)) - 1) el25 rfl rfl (by omega) (Rd.cutF (xs := (addM ya11 yb11 yd11)) Fix.len (Rd.row (i := 1) rfl) rfl addK2_le) (by omega)).yl ?_
                        refine QOps.st rfl rfl (Yv.loadEs lay49 rfl Fix.len (Rd.cutF (xs := (addM ya11 yb11 yd11)) Fix.len (Rd.row (i := 1) rfl) rfl addK2_le) (by first | omega | (simp; omega)) (by decide)).yl ?_
                        refine QOps.st rfl rfl (Yv.loadBs (i := 2) lay49 rfl rfl rfl rfl).yl ?_
                        refine QOps.st rfl rfl (Yv.eqS scal49 rfl rfl rfl rfl).yl ?_
                        exact QOps.nil rfl
                      exact QOps.nil rfl
                    refine QOps.st rfl rfl (Yv.assign rfl).yl ?_
                    refine QOps.nil ?_
                    refine Run.ret ?_
                    refine retQ.of (.inr rfl) rfl (.tmp rfl .nil) (fun w' hw' => ?_)
                    refine ⟨?_, hw'.bel.below⟩
                    refine retB_eq ?_
                    rw [Bool.and_eq_true]
                    exact ⟨by simp, hAe⟩
                · try replace hc21 := of_decide_eq_false hc21
                  refine Run.skip ?_
                  refine Run.seq ?_
                  refine Run.ops ?_
                  refine SOps.st rfl rfl (Yv.move rfl).yl ?_
                  refine SOps.one rfl (One.callER rfl callable49 (.cons rfl (.nil)) (fun w' hw' => DrawAddFix_spec ((Rd.arg hs) w' hw')) ?_)
                  rintro ⟨ya12, yb12, yd12⟩ Aq12 cq12 hx12
                  try dsimp only at *
                  refine SOps.st rfl rfl (Yv.move rfl).yl ?_
                  refine SOps.st rfl rfl (Yv.extract rfl rfl).yl ?_
                  refine SOps.st rfl rfl (Yv.extract rfl rfl).yl ?_
                  refine SOps.st rfl rfl (Yv.extract rfl rfl).yl ?_
                  refine SOps.one rfl (One.alloc rfl zero49 (fun b11 => ?_))
                  refine SOps.st rfl rfl (Yv.assign rfl).yl ?_
                  refine SOps.one rfl (One.store (i := 0) (off := 0) (vs := [_, _, _]) (cs' := [_, _, _]) (H' := [_, _, _, _, _]) lay49 rfl rfl rfl rfl rfl rfl rfl rfl rfl rfl ?_)
                  refine SOps.st rfl rfl (Yv.assign rfl).yl ?_
                  refine SOps.nil ?_
                  refine Run.seq ?_
                  refine Run.ops ?_
                  refine SOps.st rfl rfl (Yv.move rfl).yl ?_
                  refine SOps.st rfl rfl (Yv.loadBs (i := 0) lay49 rfl rfl rfl rfl).yl ?_
                  refine SOps.st rfl rfl (Yv.move rfl).yl ?_
                  refine SOps.one rfl (One.callSub rfl callable34 (.cons rfl (.cons rfl (.cons rfl (.nil)))) (fun w' hw' => AddFix_spec ((Rd.row (i := 1) rfl) w' hw')) (fun A17 c17 => ?_))
                  refine SOps.st rfl rfl (Yv.move rfl).yl ?_
                  refine SOps.st rfl rfl (Yv.extract rfl rfl).yl ?_
                  refine SOps.st rfl rfl (Yv.extract rfl rfl).yl ?_
                  refine SOps.st rfl rfl (Yv.assign rfl).yl ?_
                  refine SOps.st rfl rfl (Yv.assign rfl).yl ?_
                  refine SOps.nil ?_
                  refine Run.seq ?_
                  refine Run.ops ?_
                  refine SOps.st rfl rfl (Yv.move rfl).yl ?_
                  refine SOps.st rfl rfl (Yv.loadBs (i := 1) lay49 rfl rfl rfl rfl).yl ?_
                  refine SOps.st rfl rfl (Yv.move rfl).yl ?_
                  refine SOps.one rfl (One.callRow rfl callable32 (.cons rfl (.cons rfl (.cons rfl (.nil)))) (fun w' hw' => sAddFix_spec ((Rd.row (i := 2) rfl) w' hw')) (fun A18 c18 => ?_))
                  refine SOps.st rfl rfl (Yv.move rfl).yl ?_
                  refine SOps.st rfl rfl (Yv.extract rfl rfl).yl ?_
                  refine SOps.st rfl rfl (Yv.extract rfl rfl).yl ?_
                  refine SOps.st rfl rfl (Yv.assign rfl).yl ?_
                  refine SOps.st rfl rfl (Yv.assign rfl).yl ?_
                  refine SOps.nil ?_
                  refine Run.seq ?_
                  have hMl := addM_len (fs := ya12) (f := yb12) (pace := yd12)
                  have hAd := fun h => add_last (fs := ya12) (f := yb12) (p := yd12) h
                  have hAe : (!addOk ya12 yb12 yd12 || eqC (Fix.enc (nth ((addM ya12 yb12 yd12).drop (addK2 ya12 yb12 yd12)) ((addM ya12 yb12 yd12).length - addK2 ya12 yb12 yd12 - 1))) [.int .i64 yb12.minute, .int .i64 yb12.place, .int .i64 yb12.error]) = true := by
                    rcases h : addOk ya12 yb12 yd12 with _ | _
                    · rfl
                    · rw [(hAd h).1]; simp [eqC, Fix.enc]
                  refine Run.quiet (fun _ => ⟨by kernel_rfl, by kernel_rfl⟩) ?_
                  refine QOps.st rfl rfl (Yv.move rfl).yl ?_
                  refine QOps.st rfl rfl (Yv.move rfl).yl ?_
                  refine QOps.st rfl rfl (Yv.eqB bool4 rfl rfl).yl ?_
                  refine QOps.st rfl rfl (Yv.move rfl).yl ?_
                  refine' QOps.and [_, _, _] _ (.tmp 267) rfl rfl rfl rfl rfl rfl (fun hg42 => ?_) ?_
                  rotate_left
                  · try replace hg42 := of_decide_eq_true hg42
                    first | (have hA1 := (hAd (not_f hg42)).2) | skip
                    refine QOps.st rfl rfl (Yv.move rfl).yl ?_
                    refine QOps.st rfl rfl (Yv.move rfl).yl ?_
                    refine QOps.st rfl rfl (Yl.call callable50 (.cons rfl (.cons rfl (.nil))) (fun w' hw' => vFixesAdd_spec ((Rd.cutF (xs := (addM ya12 yb12 yd12)) Fix.len (Rd.row (i := 1) rfl) rfl addK2_le) w' hw') ((Rd.row (i := 0) rfl) w' hw'))) ?_
                    exact QOps.nil rfl
                  refine QOps.st rfl rfl (Yv.move rfl).yl ?_
                  refine' QOps.and [_, _, _, _, _, _, _, _, _, _, _, _] _ (.tmp 281) rfl rfl rfl rfl rfl rfl (fun hg43 => ?_) ?_
                  rotate_left
                  · try replace hg43 := of_decide_eq_true hg43
                    first | (have hA1 := (hAd (not_f hg43)).2) | skip
                    refine QOps.st rfl rfl (Yv.move rfl).yl ?_
                    refine QOps.st rfl rfl (Yv.not rfl).yl ?_
                    refine QOps.st rfl rfl (Yv.move rfl).yl ?_
                    refine' QOps.or [_, _, _, _, _, _, _, _] _ (.tmp 280) rfl rfl rfl rfl rfl rfl (fun hg44 => ?_) ?_
                    rotate_left
                    · try replace hg44 := of_decide_eq_false hg44
                      first | (have hA1 := (hAd (not_f hg44)).2) | skip
                      refine QOps.st rfl rfl (Yv.move rfl).yl ?_
                      refine QOps.st rfl rfl (Yv.move rfl).yl ?_
                      refine QOps.st rfl rfl (Yv.lenS el25s rfl).yl ?_
                      refine QOps.st rfl rfl (Yv.sub rfl rfl (by omega)).yl ?_
                      refine QOps.st rfl rfl (Yv.indexAddr (((addM ya12 yb12 yd12).length - (addK2 ya12 yb12 yd12)) - 1) el25 rfl rfl (by omega) (Rd.cutF (xs := (addM ya12 yb12 yd12)) Fix.len (Rd.row (i := 1) rfl) rfl addK2_le) (by omega)).yl ?_
                      refine QOps.st rfl rfl (Yv.loadEs lay49 rfl Fix.len (Rd.cutF (xs := (addM ya12 yb12 yd12)) Fix.len (Rd.row (i := 1) rfl) rfl addK2_le) (by first | omega | (simp; omega)) (by decide)).yl ?_
                      refine QOps.st rfl rfl (Yv.loadBs (i := 2) lay49 rfl rfl rfl rfl).yl ?_
                      refine QOps.st rfl rfl (Yv.eqS scal49 rfl rfl rfl rfl).yl ?_
                      exact QOps.nil rfl
                    exact QOps.nil rfl
                  refine QOps.st rfl rfl (Yv.assign rfl).yl ?_
                  refine QOps.nil ?_
                  refine Run.ret ?_
                  refine retQ.of (.inr rfl) rfl (.tmp rfl .nil) (fun w' hw' => ?_)
                  refine ⟨?_, hw'.bel.below⟩
                  refine retB_eq ?_
                  rw [Bool.and_eq_true]
                  exact ⟨by simp, hAe⟩
          · try replace hc18 := of_decide_eq_false hc18
            refine Run.skip ?_
            refine Run.seq ?_
            refine Run.ops ?_
            refine SOps.st rfl rfl (Yv.move rfl).yl ?_
            refine SOps.one rfl (One.callER rfl callable48 (.cons rfl (.nil)) (fun w' hw' => DrawOddFix_spec ((Rd.arg hs) w' hw')) ?_)
            rintro ⟨ya13, yb13⟩ Aq13 cq13 hx13
            try dsimp only at *
            refine SOps.st rfl rfl (Yv.move rfl).yl ?_
            refine SOps.st rfl rfl (Yv.extract rfl rfl).yl ?_
            refine SOps.st rfl rfl (Yv.extract rfl rfl).yl ?_
            refine SOps.st rfl rfl (Yv.assign rfl).yl ?_
            refine SOps.st rfl rfl (Yv.assign rfl).yl ?_
            refine SOps.nil ?_
            refine Run.seq ?_
            refine Run.quiet (by intro h; cases h) ?_
            refine QOps.st rfl rfl (Yv.move rfl).yl ?_
            refine QOps.st rfl rfl (Yv.move rfl).yl ?_
            refine QOps.st rfl rfl (Yl.call callable29 (.cons rfl (.cons rfl (.nil))) (fun w' hw' => OddFix_spec ((Rd.row (i := 0) rfl) w' hw'))) ?_
            refine QOps.st rfl rfl (Yv.move rfl).yl ?_
            refine QOps.st rfl rfl (Yv.extract rfl rfl).yl ?_
            refine QOps.st rfl rfl (Yv.extract rfl rfl).yl ?_
            refine QOps.st rfl rfl (Yv.assign rfl).yl ?_
            refine QOps.st rfl rfl (Yv.assign rfl).yl ?_
            refine QOps.nil ?_
            refine Run.seq ?_
            refine Run.seq ?_
            refine Run.quiet (by intro h; cases h) ?_
            refine QOps.st rfl rfl (Yv.move rfl).yl ?_
            refine QOps.st rfl rfl (Yv.move rfl).yl ?_
            refine QOps.st rfl rfl (Yl.call callable28 (.cons rfl (.cons rfl (.nil))) (fun w' hw' => sOddFix_spec ((Rd.row (i := 0) rfl) w' hw'))) ?_
            refine QOps.st rfl rfl (Yv.move rfl).yl ?_
            refine QOps.st rfl rfl (Yv.extract rfl rfl).yl ?_
            refine QOps.st rfl rfl (Yv.extract rfl rfl).yl ?_
            refine QOps.st rfl rfl (Yv.assign rfl).yl ?_
            refine QOps.st rfl rfl (Yv.assign rfl).yl ?_
            refine QOps.nil ?_
            refine Run.seq ?_
            refine Run.quiet (by intro h; cases h) ?_
            refine QOps.st rfl rfl (Yv.move rfl).yl ?_
            refine QOps.st rfl rfl (Yv.move rfl).yl ?_
            refine QOps.st rfl rfl (Yv.neI rfl rfl).yl ?_
            refine QOps.st rfl rfl (Yv.move rfl).yl ?_
            refine' QOps.or [_, _, _] _ (.tmp 203) rfl rfl rfl rfl rfl rfl (fun hg45 => ?_) ?_
            rotate_left
            · try replace hg45 := of_decide_eq_false hg45
              first | (have hA1 := (hAd (not_f hg45)).2) | skip
              refine QOps.st rfl rfl (Yv.move rfl).yl ?_
              refine QOps.st rfl rfl (Yv.move rfl).yl ?_
              refine QOps.st rfl rfl (Yv.neB bool4 rfl rfl).yl ?_
              exact QOps.nil rfl
            refine QOps.nil ?_
            refine Run.cond rfl (fun hc23 => ?_) (fun hc23 => ?_)
            · exfalso
              simp at hc23
            · try replace hc23 := of_decide_eq_false hc23
              refine Run.skip ?_
              refine Run.seq ?_
              refine Run.seq ?_
              refine Run.quiet (by intro h; cases h) ?_
              refine QOps.st rfl rfl (Yv.move rfl).yl ?_
              refine QOps.nil ?_
              refine Run.cond rfl (fun hc24 => ?_) (fun hc24 => ?_)
              · try replace hc24 := of_decide_eq_true hc24
                obtain ⟨k, hO⟩ := odd hc24
                have hOl := hO.lt
                have hO8 := hO.len
                have hg : areConsistentOf (ya13.take k ++ ya13.drop (k + 1)) yb13 = (true, true) := hO.good
                rw [hO.is_]
                dsimp only
                refine Run.seq ?_
                refine Run.capRow (i := 0) rfl (fun hcp => ?_)
                refine Run.draws (fun H => H) (m := 11) (listed := #[false, false, false, false, false, false, false, false, false, false, false]) (by kernel_rfl) rfl rfl ?_
                refine DOps.take (listed' := #[false, true, false, false, false, false, false, false, false, false, false]) 1 rfl (by kernel_rfl) rfl (List.Sublist.refl _) rfl rfl (Yv.move rfl) ?_
                refine DOps.take (listed' := #[false, true, true, false, false, false, false, false, false, false, false]) 2 rfl (by kernel_rfl) rfl (List.Sublist.refl _) rfl rfl (Yv.move rfl) ?_
                refine DOps.take (listed' := #[false, true, true, true, false, false, false, false, false, false, false]) 3 rfl (by kernel_rfl) rfl (List.Sublist.refl _) rfl rfl (Yv.cutTo0 k el25 rfl rfl rfl (by omega)) ?_
                refine DOps.take (listed' := #[false, true, true, true, false, true, false, false, false, false, false]) 5 rfl (by kernel_rfl) rfl (List.Sublist.refl _) rfl rfl (Yv.move rfl) ?_
                refine DOps.take (listed' := #[false, true, true, true, false, true, true, false, false, false, false]) 6 rfl (by kernel_rfl) rfl (List.Sublist.refl _) rfl rfl (Yv.move rfl) ?_
                refine DOps.take (listed' := #[false, true, true, true, false, true, true, true, false, false, false]) 7 rfl (by kernel_rfl) rfl (List.Sublist.refl _) rfl rfl (Yv.succN rfl rfl (by omega)) ?_
                refine DOps.take (listed' := #[false, true, true, true, false, true, true, true, true, false, false]) 8 rfl (by kernel_rfl) rfl (List.Sublist.refl _) rfl rfl (Yv.cutFrom (k + 1) el25 rfl rfl rfl (by omega)) ?_
                refine DOps.only (listed' := #[true, true, true, true, false, true, true, true, true, false, false]) 0 rfl (by kernel_rfl) rfl rfl ?_
                refine One.buildSliceG (pv := []) (cs := []) (fun _ => []) rfl el25 .nil rfl rfl (by kernel_rfl) rfl rfl (fun b12 => ?_)
                refine ⟨(List.Sublist.cons _ (List.Sublist.refl _)), ?_⟩
                refine DOps.only (listed' := #[true, true, true, true, true, true, true, true, true, false, false]) 4 rfl (by kernel_rfl) rfl rfl ?_
                refine One.append (enc := Fix.enc) (l := ([] : List Fix)) (l2 := (ya13.take k)) (m' := k) (i := 0) (H' := fun A c => [_, _, _, _]) rfl el25 zero49 rfl (by decide) rfl rfl rfl (Rd.cut0 (xs := ya13) Fix.len (Rd.row (i := 1) rfl) (by omega)) (fun _ => rfl) (by simp) (by omega) (by omega) (fun _ _ => rfl) (fun A19 c19 => ?_)
                refine ⟨(List.Sublist.cons _ (List.Sublist.refl _)), ?_⟩
                refine DOps.only (listed' := #[true, true, true, true, true, true, true, true, true, true, false]) 9 rfl (by kernel_rfl) rfl rfl ?_
                refine One.append (enc := Fix.enc) (l := (ya13.take k)) (l2 := (ya13.drop (k + 1))) (m' := (k + (ya13.length - (k + 1)))) (i := 0) (H' := fun A c => [_, _, _, _]) rfl el25 zero49 rfl (by decide) rfl rfl rfl (Rd.cutF (xs := ya13) Fix.len (Rd.row (i := 1) rfl) rfl (by omega)) (fun _ => rfl) rfl (by omega) (by omega) (fun _ _ => rfl) (fun A20 c20 => ?_)
                refine ⟨(List.Sublist.cons _ (List.Sublist.refl _)), ?_⟩
                refine DOps.take (listed' := #[true, true, true, true, true, true, true, true, true, true, true]) 10 rfl (by kernel_rfl) rfl (List.Sublist.cons _ (List.Sublist.refl _)) rfl rfl (Yv.assign rfl) ?_
                refine DOps.done (by kernel_rfl) ?_
                refine Run.seq ?_
                refine Run.quiet (by intro h; cases h) ?_
                refine QOps.st rfl rfl (Yv.move rfl).yl ?_
                refine QOps.st rfl rfl (Yv.move rfl).yl ?_
                refine QOps.st rfl rfl (Yl.call callable20 (.cons rfl (.cons rfl (.nil))) (fun w' hw' => AreConsistentN_spec (by first | rfl | exact without_len hOl) ((Rd.row (i := 0) rfl) w' hw'))) ?_
                refine QOps.st rfl rfl (Yv.move rfl).yl ?_
                refine QOps.st rfl rfl (Yv.extract rfl rfl).yl ?_
                refine QOps.st rfl rfl (Yv.extract rfl rfl).yl ?_
                refine QOps.st rfl rfl (Yv.assign rfl).yl ?_
                refine QOps.st rfl rfl (Yv.assign rfl).yl ?_
                refine QOps.nil ?_
                refine Run.seq ?_
                refine Run.quiet (by intro h; cases h) ?_
                refine QOps.st rfl rfl (Yv.move rfl).yl ?_
                refine QOps.st rfl rfl (Yv.move rfl).yl ?_
                refine QOps.st rfl rfl (Yl.call callable20 (.cons rfl (.cons rfl (.nil))) (fun w' hw' => AreConsistentN_spec (by first | rfl | exact without_len hOl) ((Rd.row (i := 1) rfl) w' hw'))) ?_
                refine QOps.st rfl rfl (Yv.move rfl).yl ?_
                refine QOps.st rfl rfl (Yv.extract rfl rfl).yl ?_
                refine QOps.st rfl rfl (Yv.extract rfl rfl).yl ?_
                refine QOps.st rfl rfl (Yv.assign rfl).yl ?_
                refine QOps.st rfl rfl (Yv.assign rfl).yl ?_
                refine QOps.nil ?_
                refine Run.seq ?_
                refine Run.quiet (by intro h; cases h) ?_
                refine QOps.st rfl rfl (Yv.move rfl).yl ?_
                refine QOps.st rfl rfl (Yv.not rfl).yl ?_
                refine QOps.st rfl rfl (Yv.move rfl).yl ?_
                refine' QOps.or [_, _] _ (.tmp 232) rfl rfl rfl rfl rfl rfl (fun hg46 => ?_) ?_
                rotate_left
                · try replace hg46 := of_decide_eq_false hg46
                  first | (have hA1 := (hAd (not_f hg46)).2) | skip
                  refine QOps.st rfl rfl (Yv.move rfl).yl ?_
                  refine QOps.st rfl rfl (Yv.not rfl).yl ?_
                  exact QOps.nil rfl
                refine QOps.st rfl rfl (Yv.move rfl).yl ?_
                refine' QOps.or [_, _] _ (.tmp 236) rfl rfl rfl rfl rfl rfl (fun hg47 => ?_) ?_
                rotate_left
                · try replace hg47 := of_decide_eq_false hg47
                  first | (have hA1 := (hAd (not_f hg47)).2) | skip
                  refine QOps.st rfl rfl (Yv.move rfl).yl ?_
                  refine QOps.st rfl rfl (Yv.not rfl).yl ?_
                  exact QOps.nil rfl
                refine QOps.st rfl rfl (Yv.move rfl).yl ?_
                refine' QOps.or [_] _ (.tmp 239) rfl rfl rfl rfl rfl rfl (fun hg48 => ?_) ?_
                rotate_left
                · try replace hg48 := of_decide_eq_false hg48
                  first | (have hA1 := (hAd (not_f hg48)).2) | skip
                  refine QOps.st rfl rfl (Yv.move rfl).yl ?_
                  exact QOps.nil rfl
                refine QOps.nil ?_
                refine Run.cond rfl (fun hc25 => ?_) (fun hc25 => ?_)
                · exfalso
                  simp [hg, hO.bad] at hc25
                · try replace hc25 := of_decide_eq_false hc25
                  refine Run.skip ?_
                  refine Run.seq ?_
                  refine Run.ops ?_
                  refine SOps.st rfl rfl (Yv.move rfl).yl ?_
                  refine SOps.one rfl (One.callER rfl callable49 (.cons rfl (.nil)) (fun w' hw' => DrawAddFix_spec ((Rd.arg hs) w' hw')) ?_)
                  rintro ⟨ya14, yb14, yd14⟩ Aq14 cq14 hx14
                  try dsimp only at *
                  refine SOps.st rfl rfl (Yv.move rfl).yl ?_
                  refine SOps.st rfl rfl (Yv.extract rfl rfl).yl ?_
                  refine SOps.st rfl rfl (Yv.extract rfl rfl).yl ?_
                  refine SOps.st rfl rfl (Yv.extract rfl rfl).yl ?_
                  refine SOps.one rfl (One.alloc rfl zero49 (fun b13 => ?_))
                  refine SOps.st rfl rfl (Yv.assign rfl).yl ?_
                  refine SOps.one rfl (One.store (i := 0) (off := 0) (vs := [_, _, _]) (cs' := [_, _, _]) (H' := [_, _, _, _, _, _]) lay49 rfl rfl rfl rfl rfl rfl rfl rfl rfl rfl ?_)
                  refine SOps.st rfl rfl (Yv.assign rfl).yl ?_
                  refine SOps.nil ?_
                  refine Run.seq ?_
                  refine Run.ops ?_
                  refine SOps.st rfl rfl (Yv.move rfl).yl ?_
                  refine SOps.st rfl rfl (Yv.loadBs (i := 0) lay49 rfl rfl rfl rfl).yl ?_
                  refine SOps.st rfl rfl (Yv.move rfl).yl ?_
                  refine SOps.one rfl (One.callSub rfl callable34 (.cons rfl (.cons rfl (.cons rfl (.nil)))) (fun w' hw' => AddFix_spec ((Rd.row (i := 1) rfl) w' hw')) (fun A21 c21 => ?_))
                  refine SOps.st rfl rfl (Yv.move rfl).yl ?_
                  refine SOps.st rfl rfl (Yv.extract rfl rfl).yl ?_
                  refine SOps.st rfl rfl (Yv.extract rfl rfl).yl ?_
                  refine SOps.st rfl rfl (Yv.assign rfl).yl ?_
                  refine SOps.st rfl rfl (Yv.assign rfl).yl ?_
                  refine SOps.nil ?_
                  refine Run.seq ?_
                  refine Run.ops ?_
                  refine SOps.st rfl rfl (Yv.move rfl).yl ?_
                  refine SOps.st rfl rfl (Yv.loadBs (i := 1) lay49 rfl rfl rfl rfl).yl ?_
                  refine SOps.st rfl rfl (Yv.move rfl).yl ?_
                  refine SOps.one rfl (One.callRow rfl callable32 (.cons rfl (.cons rfl (.cons rfl (.nil)))) (fun w' hw' => sAddFix_spec ((Rd.row (i := 2) rfl) w' hw')) (fun A22 c22 => ?_))
                  refine SOps.st rfl rfl (Yv.move rfl).yl ?_
                  refine SOps.st rfl rfl (Yv.extract rfl rfl).yl ?_
                  refine SOps.st rfl rfl (Yv.extract rfl rfl).yl ?_
                  refine SOps.st rfl rfl (Yv.assign rfl).yl ?_
                  refine SOps.st rfl rfl (Yv.assign rfl).yl ?_
                  refine SOps.nil ?_
                  refine Run.seq ?_
                  have hMl := addM_len (fs := ya14) (f := yb14) (pace := yd14)
                  have hAd := fun h => add_last (fs := ya14) (f := yb14) (p := yd14) h
                  have hAe : (!addOk ya14 yb14 yd14 || eqC (Fix.enc (nth ((addM ya14 yb14 yd14).drop (addK2 ya14 yb14 yd14)) ((addM ya14 yb14 yd14).length - addK2 ya14 yb14 yd14 - 1))) [.int .i64 yb14.minute, .int .i64 yb14.place, .int .i64 yb14.error]) = true := by
                    rcases h : addOk ya14 yb14 yd14 with _ | _
                    · rfl
                    · rw [(hAd h).1]; simp [eqC, Fix.enc]
                  refine Run.quiet (fun _ => ⟨by kernel_rfl, by kernel_rfl⟩) ?_
                  refine QOps.st rfl rfl (Yv.move rfl).yl ?_
                  refine QOps.st rfl rfl (Yv.move rfl).yl ?_
                  refine QOps.st rfl rfl (Yv.eqB bool4 rfl rfl).yl ?_
                  refine QOps.st rfl rfl (Yv.move rfl).yl ?_
                  refine' QOps.and [_, _, _] _ (.tmp 267) rfl rfl rfl rfl rfl rfl (fun hg49 => ?_) ?_
                  rotate_left
                  · try replace hg49 := of_decide_eq_true hg49
                    first | (have hA1 := (hAd (not_f hg49)).2) | skip
                    refine QOps.st rfl rfl (Yv.move rfl).yl ?_
                    refine QOps.st rfl rfl (Yv.move rfl).yl ?_
                    refine QOps.st rfl rfl (Yl.call callable50 (.cons rfl (.cons rfl (.nil))) (fun w' hw' => vFixesAdd_spec ((Rd.cutF (xs := (addM ya14 yb14 yd14)) Fix.len (Rd.row (i := 1) rfl) rfl addK2_le) w' hw') ((Rd.row (i := 0) rfl) w' hw'))) ?_
                    exact QOps.nil rfl
                  refine QOps.st rfl rfl (Yv.move rfl).yl ?_
                  refine' QOps.and [_, _, _, _, _, _, _, _, _, _, _, _] _ (.tmp 281) rfl rfl rfl rfl rfl rfl (fun hg50 => ?_) ?_
                  rotate_left
                  · try replace hg50 := of_decide_eq_true hg50
                    first | (have hA1 := (hAd (not_f hg50)).2) | skip
                    refine QOps.st rfl rfl (Yv.move rfl).yl ?_
                    refine QOps.st rfl rfl (Yv.not rfl).yl ?_
                    refine QOps.st rfl rfl (Yv.move rfl).yl ?_
                    refine' QOps.or [_, _, _, _, _, _, _, _] _ (.tmp 280) rfl rfl rfl rfl rfl rfl (fun hg51 => ?_) ?_
                    rotate_left
                    · try replace hg51 := of_decide_eq_false hg51
                      first | (have hA1 := (hAd (not_f hg51)).2) | skip
                      refine QOps.st rfl rfl (Yv.move rfl).yl ?_
                      refine QOps.st rfl rfl (Yv.move rfl).yl ?_
                      refine QOps.st rfl rfl (Yv.lenS el25s rfl).yl ?_
                      refine QOps.st rfl rfl (Yv.sub rfl rfl (by omega)).yl ?_
                      refine QOps.st rfl rfl (Yv.indexAddr (((addM ya14 yb14 yd14).length - (addK2 ya14 yb14 yd14)) - 1) el25 rfl rfl (by omega) (Rd.cutF (xs := (addM ya14 yb14 yd14)) Fix.len (Rd.row (i := 1) rfl) rfl addK2_le) (by omega)).yl ?_
                      refine QOps.st rfl rfl (Yv.loadEs lay49 rfl Fix.len (Rd.cutF (xs := (addM ya14 yb14 yd14)) Fix.len (Rd.row (i := 1) rfl) rfl addK2_le) (by first | omega | (simp; omega)) (by decide)).yl ?_
                      refine QOps.st rfl rfl (Yv.loadBs (i := 2) lay49 rfl rfl rfl rfl).yl ?_
                      refine QOps.st rfl rfl (Yv.eqS scal49 rfl rfl rfl rfl).yl ?_
                      exact QOps.nil rfl
                    exact QOps.nil rfl
                  refine QOps.st rfl rfl (Yv.assign rfl).yl ?_
                  refine QOps.nil ?_
                  refine Run.ret ?_
                  refine retQ.of (.inr rfl) rfl (.tmp rfl .nil) (fun w' hw' => ?_)
                  refine ⟨?_, hw'.bel.below⟩
                  refine retB_eq ?_
                  rw [Bool.and_eq_true]
                  exact ⟨by simp, hAe⟩
              · try replace hc24 := of_decide_eq_false hc24
                refine Run.skip ?_
                refine Run.seq ?_
                refine Run.ops ?_
                refine SOps.st rfl rfl (Yv.move rfl).yl ?_
                refine SOps.one rfl (One.callER rfl callable49 (.cons rfl (.nil)) (fun w' hw' => DrawAddFix_spec ((Rd.arg hs) w' hw')) ?_)
                rintro ⟨ya15, yb15, yd15⟩ Aq15 cq15 hx15
                try dsimp only at *
                refine SOps.st rfl rfl (Yv.move rfl).yl ?_
                refine SOps.st rfl rfl (Yv.extract rfl rfl).yl ?_
                refine SOps.st rfl rfl (Yv.extract rfl rfl).yl ?_
                refine SOps.st rfl rfl (Yv.extract rfl rfl).yl ?_
                refine SOps.one rfl (One.alloc rfl zero49 (fun b14 => ?_))
                refine SOps.st rfl rfl (Yv.assign rfl).yl ?_
                refine SOps.one rfl (One.store (i := 0) (off := 0) (vs := [_, _, _]) (cs' := [_, _, _]) (H' := [_, _, _, _, _]) lay49 rfl rfl rfl rfl rfl rfl rfl rfl rfl rfl ?_)
                refine SOps.st rfl rfl (Yv.assign rfl).yl ?_
                refine SOps.nil ?_
                refine Run.seq ?_
                refine Run.ops ?_
                refine SOps.st rfl rfl (Yv.move rfl).yl ?_
                refine SOps.st rfl rfl (Yv.loadBs (i := 0) lay49 rfl rfl rfl rfl).yl ?_
                refine SOps.st rfl rfl (Yv.move rfl).yl ?_
                refine SOps.one rfl (One.callSub rfl callable34 (.cons rfl (.cons rfl (.cons rfl (.nil)))) (fun w' hw' => AddFix_spec ((Rd.row (i := 1) rfl) w' hw')) (fun A23 c23 => ?_))
                refine SOps.st rfl rfl (Yv.move rfl).yl ?_
                refine SOps.st rfl rfl (Yv.extract rfl rfl).yl ?_
                refine SOps.st rfl rfl (Yv.extract rfl rfl).yl ?_
                refine SOps.st rfl rfl (Yv.assign rfl).yl ?_
                refine SOps.st rfl rfl (Yv.assign rfl).yl ?_
                refine SOps.nil ?_
                refine Run.seq ?_
                refine Run.ops ?_
                refine SOps.st rfl rfl (Yv.move rfl).yl ?_
                refine SOps.st rfl rfl (Yv.loadBs (i := 1) lay49 rfl rfl rfl rfl).yl ?_
                refine SOps.st rfl rfl (Yv.move rfl).yl ?_
                refine SOps.one rfl (One.callRow rfl callable32 (.cons rfl (.cons rfl (.cons rfl (.nil)))) (fun w' hw' => sAddFix_spec ((Rd.row (i := 2) rfl) w' hw')) (fun A24 c24 => ?_))
                refine SOps.st rfl rfl (Yv.move rfl).yl ?_
                refine SOps.st rfl rfl (Yv.extract rfl rfl).yl ?_
                refine SOps.st rfl rfl (Yv.extract rfl rfl).yl ?_
                refine SOps.st rfl rfl (Yv.assign rfl).yl ?_
                refine SOps.st rfl rfl (Yv.assign rfl).yl ?_
                refine SOps.nil ?_
                refine Run.seq ?_
                have hMl := addM_len (fs := ya15) (f := yb15) (pace := yd15)
                have hAd := fun h => add_last (fs := ya15) (f := yb15) (p := yd15) h
                have hAe : (!addOk ya15 yb15 yd15 || eqC (Fix.enc (nth ((addM ya15 yb15 yd15).drop (addK2 ya15 yb15 yd15)) ((addM ya15 yb15 yd15).length - addK2 ya15 yb15 yd15 - 1))) [.int .i64 yb15.minute, .int .i64 yb15.place, .int .i64 yb15.error]) = true := by
                  rcases h : addOk ya15 yb15 yd15 with _ | _
                  · rfl
                  · rw [(hAd h).1]; simp [eqC, Fix.enc]
                refine Run.quiet (fun _ => ⟨by kernel_rfl, by kernel_rfl⟩) ?_
                refine QOps.st rfl rfl (Yv.move rfl).yl ?_
                refine QOps.st rfl rfl (Yv.move rfl).yl ?_
                refine QOps.st rfl rfl (Yv.eqB bool4 rfl rfl).yl ?_
                refine QOps.st rfl rfl (Yv.move rfl).yl ?_
                refine' QOps.and [_, _, _] _ (.tmp 267) rfl rfl rfl rfl rfl rfl (fun hg52 => ?_) ?_
                rotate_left
                · try replace hg52 := of_decide_eq_true hg52
                  first | (have hA1 := (hAd (not_f hg52)).2) | skip
                  refine QOps.st rfl rfl (Yv.move rfl).yl ?_
                  refine QOps.st rfl rfl (Yv.move rfl).yl ?_
                  refine QOps.st rfl rfl (Yl.call callable50 (.cons rfl (.cons rfl (.nil))) (fun w' hw' => vFixesAdd_spec ((Rd.cutF (xs := (addM ya15 yb15 yd15)) Fix.len (Rd.row (i := 1) rfl) rfl addK2_le) w' hw') ((Rd.row (i := 0) rfl) w' hw'))) ?_
                  exact QOps.nil rfl
                refine QOps.st rfl rfl (Yv.move rfl).yl ?_
                refine' QOps.and [_, _, _, _, _, _, _, _, _, _, _, _] _ (.tmp 281) rfl rfl rfl rfl rfl rfl (fun hg53 => ?_) ?_
                rotate_left
                · try replace hg53 := of_decide_eq_true hg53
                  first | (have hA1 := (hAd (not_f hg53)).2) | skip
                  refine QOps.st rfl rfl (Yv.move rfl).yl ?_
                  refine QOps.st rfl rfl (Yv.not rfl).yl ?_
                  refine QOps.st rfl rfl (Yv.move rfl).yl ?_
                  refine' QOps.or [_, _, _, _, _, _, _, _] _ (.tmp 280) rfl rfl rfl rfl rfl rfl (fun hg54 => ?_) ?_
                  rotate_left
                  · try replace hg54 := of_decide_eq_false hg54
                    first | (have hA1 := (hAd (not_f hg54)).2) | skip
                    refine QOps.st rfl rfl (Yv.move rfl).yl ?_
                    refine QOps.st rfl rfl (Yv.move rfl).yl ?_
                    refine QOps.st rfl rfl (Yv.lenS el25s rfl).yl ?_
                    refine QOps.st rfl rfl (Yv.sub rfl rfl (by omega)).yl ?_
                    refine QOps.st rfl rfl (Yv.indexAddr (((addM ya15 yb15 yd15).length - (addK2 ya15 yb15 yd15)) - 1) el25 rfl rfl (by omega) (Rd.cutF (xs := (addM ya15 yb15 yd15)) Fix.len (Rd.row (i := 1) rfl) rfl addK2_le) (by omega)).yl ?_
                    refine QOps.st rfl rfl (Yv.loadEs lay49 rfl Fix.len (Rd.cutF (xs := (addM ya15 yb15 yd15)) Fix.len (Rd.row (i := 1) rfl) rfl addK2_le) (by first | omega | (simp; omega)) (by decide)).yl ?_
                    refine QOps.st rfl rfl (Yv.loadBs (i := 2) lay49 rfl rfl rfl rfl).yl ?_
                    refine QOps.st rfl rfl (Yv.eqS scal49 rfl rfl rfl rfl).yl ?_
                    exact QOps.nil rfl
                  exact QOps.nil rfl
                refine QOps.st rfl rfl (Yv.assign rfl).yl ?_
                refine QOps.nil ?_
                refine Run.ret ?_
                refine retQ.of (.inr rfl) rfl (.tmp rfl .nil) (fun w' hw' => ?_)
                refine ⟨?_, hw'.bel.below⟩
                refine retB_eq ?_
                rw [Bool.and_eq_true]
                exact ⟨by simp, hAe⟩
end Go.Proofs.Ytliealfihglkmaa
