/- Convoys: what the law of barges draws, and its own helpers. Conditions: none. -/
import Derived.Test.YtfpglglolhlegaaCon9
namespace Go.Proofs.Ytfpglglolhlegaa
open Go.RowKit
set_option maxRecDepth 100000
theorem vBig_spec {w : World} {A : Option Addr} {n c : Nat} : Calls Try.prog 22 #[.slice A n c] w (RetB w (.bool (decide ((65536 : Int) < (n : Int))))) := by
  refine calls_of_run (vs := [_]) (L := [(0, _)]) (n := 6) (F := []) (H := []) Try.func22 rfl rfl rfl rfl (HOk.start _) ?_
  refine Run.seq ?_
  refine Run.quiet (by intro h; cases h) ?_
  refine QOps.st rfl rfl (Yv.assign rfl).yl ?_
  refine QOps.nil ?_
  refine Run.seq ?_
  refine Run.quiet (by intro h; cases h) ?_
  refine QOps.st rfl rfl (Yv.move rfl).yl ?_
  refine QOps.st rfl rfl (Yv.lenS el33s rfl).yl ?_
  refine QOps.st rfl rfl (Yv.gtr rfl rfl).yl ?_
  refine QOps.st rfl rfl (Yv.assign rfl).yl ?_
  refine QOps.nil ?_
  refine Run.ret ?_
  refine retQ.of (.inr rfl) rfl (.tmp rfl .nil) (fun w' hw' => ?_)
  refine ⟨?_, hw'.bel.below⟩
  exact rfl

theorem vInts_spec {w : World} {A A2 : Option Addr} {c c2 : Nat} {l : List Int} (hs : Sl w 1 A l.length c (l.flatMap intC)) (hs2 : Sl w 1 A2 l.length c2 (l.flatMap intC)) :
    Calls Try.prog 28 #[.slice A l.length c, .slice A2 l.length c2] w (RetB w (.bool true)) := by
  have hmx := Sl.lenle hs
  refine calls_of_run (vs := [_, _]) (L := [(0, _), (1, _)]) (n := 26) (F := []) (H := []) Try.func28 rfl rfl rfl rfl (HOk.start _) ?_
  refine Run.seq ?_
  refine Run.quiet (by intro h; cases h) ?_
  refine QOps.st rfl rfl (Yv.assign rfl).yl ?_
  refine QOps.nil ?_
  refine Run.seq ?_
  refine Run.seq ?_
  refine Run.quiet (by intro h; cases h) ?_
  refine QOps.st rfl rfl (Yv.move rfl).yl ?_
  refine QOps.st rfl rfl (Yv.lenS el22s rfl).yl ?_
  refine QOps.st rfl rfl (Yv.move rfl).yl ?_
  refine QOps.st rfl rfl (Yv.lenS el22s rfl).yl ?_
  refine QOps.st rfl rfl (Yv.neI rfl rfl).yl ?_
  refine QOps.nil ?_
  refine Run.cond rfl (fun hc1 => ?_) (fun hc1 => ?_)
  · exfalso
    simp at hc1
  · try replace hc1 := of_decide_eq_false hc1
    refine Run.skip ?_
    refine Run.seq ?_
    refine Run.seq ?_
    refine Run.quiet (by intro h; cases h) ?_
    refine QOps.st rfl rfl (Yv.assign rfl).yl ?_
    refine QOps.nil ?_
    refine Run.block ?_
    refine Run.loop (S := Nat) (fun s => match s with | k => k ≤ l.length) (fun s => match s with | k => [(0, .slice A l.length c), (1, .slice A2 l.length c2), (5, .int .i64 (k : Int))]) (fun s => match s with | k => []) (fun s => match s with | k => l.length - k) 0 ?_ (SubE.cons rfl (SubE.cons rfl (SubE.cons rfl (SubE.nil _)))) (List.Sublist.refl _) ?_
    · exact Nat.zero_le _
    · rintro k hk
      show Run _ _ _ _ _ [(0, .slice A l.length c), (1, .slice A2 l.length c2), (5, .int .i64 (k : Int))] [] _
      refine Run.seq ?_
      refine Run.seq ?_
      refine Run.quiet (by intro h; cases h) ?_
      refine QOps.st rfl rfl (Yv.move rfl).yl ?_
      refine QOps.st rfl rfl (Yv.move rfl).yl ?_
      refine QOps.st rfl rfl (Yv.lenS el22s rfl).yl ?_
      refine QOps.st rfl rfl (Yv.lss rfl rfl).yl ?_
      refine QOps.nil ?_
      refine Run.cond rfl (fun hc2 => ?_) (fun hc2 => ?_)
      · try replace hc2 := of_decide_eq_true hc2
        refine Run.skip ?_
        refine Run.seq ?_
        refine Run.block ?_
        refine Run.seq ?_
        refine Run.quiet (fun _ => ⟨by kernel_rfl, by kernel_rfl⟩) ?_
        refine QOps.st rfl rfl (Yv.move rfl).yl ?_
        refine QOps.st rfl rfl (Yv.move rfl).yl ?_
        refine QOps.st rfl rfl (Yv.indexAddr k el22 rfl rfl rfl (Rd.arg hs) (by omega)).yl ?_
        refine QOps.st rfl rfl (Yv.loadE lay3 rfl intC_len (Rd.arg hs) (by first | omega | (simp; omega)) rfl).yl ?_
        refine QOps.st rfl rfl (Yv.move rfl).yl ?_
        refine QOps.st rfl rfl (Yv.move rfl).yl ?_
        refine QOps.st rfl rfl (Yv.indexAddr k el22 rfl rfl rfl (Rd.arg hs2) (by omega)).yl ?_
        refine QOps.st rfl rfl (Yv.loadE lay3 rfl intC_len (Rd.arg hs2) (by first | omega | (simp; omega)) rfl).yl ?_
        refine QOps.st rfl rfl (Yv.neI rfl rfl).yl ?_
        refine QOps.nil ?_
        refine Run.cond rfl (fun hc3 => ?_) (fun hc3 => ?_)
        · exfalso
          simp at hc3
        · try replace hc3 := of_decide_eq_false hc3
          refine Run.skip ?_
          refine Run.quiet (by intro h; cases h) ?_
          refine QOps.st rfl rfl (Yv.move rfl).yl ?_
          refine QOps.st rfl rfl (Yv.succN rfl rfl (by omega)).yl ?_
          refine QOps.st rfl rfl (Yv.assign rfl).yl ?_
          refine QOps.nil ?_
          refine ⟨k + 1, ?_, ?_, (SubE.cons rfl (SubE.cons rfl (SubE.cons rfl (SubE.nil _)))), (List.Sublist.refl _)⟩
          · show k + 1 ≤ _; omega
          · first | omega | (dsimp only; omega)
      · try replace hc2 := of_decide_eq_false hc2
        refine Run.exit ?_
        refine Run.seq ?_
        refine Run.quiet (by intro h; cases h) ?_
        refine QOps.st rfl rfl (Yv.assign rfl).yl ?_
        refine QOps.nil ?_
        refine Run.ret ?_
        refine retQ.of (.inr rfl) rfl (.tmp rfl .nil) (fun w' hw' => ?_)
        refine ⟨?_, hw'.bel.below⟩
        exact rfl

theorem vConvoy_spec {w : World} {A A2 : Option Addr} {c c2 : Nat} {p : Int} {l : List Int} (hs : Sl w 1 A l.length c (l.flatMap intC)) (hs2 : Sl w 1 A2 l.length c2 (l.flatMap intC)) :
    Calls Try.prog 49 #[.agg #[.int .i64 p, .slice A l.length c], .agg #[.int .i64 p, .slice A2 l.length c2]] w (RetB w (.bool true)) := by
  refine calls_of_run (vs := [_, _]) (L := [(0, _), (1, _)]) (n := 17) (F := []) (H := []) Try.func49 rfl rfl rfl rfl (HOk.start _) ?_
  refine Run.seq ?_
  refine Run.ops ?_
  refine SOps.one rfl (One.box (cs := [_, _]) rfl rfl rfl (fun b1 => ?_))
  refine SOps.one rfl (One.box (cs := [_, _]) rfl rfl rfl (fun b2 => ?_))
  refine SOps.st rfl rfl (Yv.assign rfl).yl ?_
  refine SOps.nil ?_
  refine Run.seq ?_
  refine Run.quiet (by intro h; cases h) ?_
  refine QOps.st rfl rfl (Yv.fieldAddr fld27_0 rfl).yl ?_
  refine QOps.st rfl rfl (Yv.loadB (i := 1) lay3 rfl rfl rfl rfl).yl ?_
  refine QOps.st rfl rfl (Yv.fieldAddr fld27_0 rfl).yl ?_
  refine QOps.st rfl rfl (Yv.loadB (i := 0) lay3 rfl rfl rfl rfl).yl ?_
  refine QOps.st rfl rfl (Yv.eqI rfl rfl).yl ?_
  refine QOps.st rfl rfl (Yv.move rfl).yl ?_
  refine' QOps.and [_, _, _, _, _] _ (.tmp 15) rfl rfl rfl rfl rfl rfl (fun hg1 => ?_) ?_
  rotate_left
  · try replace hg1 := of_decide_eq_true hg1
    refine QOps.st rfl rfl (Yv.fieldAddr fld27_1 rfl).yl ?_
    refine QOps.st rfl rfl (Yv.loadB (i := 1) lay22 rfl rfl rfl rfl).yl ?_
    refine QOps.st rfl rfl (Yv.fieldAddr fld27_1 rfl).yl ?_
    refine QOps.st rfl rfl (Yv.loadB (i := 0) lay22 rfl rfl rfl rfl).yl ?_
    refine QOps.st rfl rfl (Yl.call callable28 (.cons rfl (.cons rfl (.nil))) (fun w' hw' => vInts_spec ((Rd.arg hs) w' hw') ((Rd.arg hs2) w' hw'))) ?_
    exact QOps.nil rfl
  refine QOps.st rfl rfl (Yv.assign rfl).yl ?_
  refine QOps.nil ?_
  refine Run.ret ?_
  refine retQ.of (.inr rfl) rfl (.tmp rfl .nil) (fun w' hw' => ?_)
  refine ⟨?_, hw'.bel.below⟩
  refine retB_eq ?_
  simp
theorem vSum_spec {w : World} {A : Option Addr} {c : Nat} {l : List Int} (hs : Sl w 1 A l.length c (l.flatMap intC)) (hl : l.length ≤ 1000) (hb : ∀ k, k < l.length → 1 ≤ nth l k ∧ nth l k ≤ 6) :
    Calls Try.prog 35 #[.slice A l.length c] w (RetB w (.int .i64 (sumTo l l.length))) := by
  refine calls_of_run (vs := [_]) (L := [(0, _)]) (n := 18) (F := []) (H := []) Try.func35 rfl rfl rfl rfl (HOk.start _) ?_
  refine Run.seq ?_
  refine Run.quiet (by intro h; cases h) ?_
  refine QOps.st rfl rfl (Yv.assign rfl).yl ?_
  refine QOps.nil ?_
  refine Run.seq ?_
  refine Run.quiet (by intro h; cases h) ?_
  refine QOps.st rfl rfl (Yv.assign rfl).yl ?_
  refine QOps.nil ?_
  refine Run.seq ?_
  refine Run.seq ?_
  refine Run.quiet (by intro h; cases h) ?_
  refine QOps.st rfl rfl (Yv.assign rfl).yl ?_
  refine QOps.nil ?_
  refine Run.block ?_
  refine Run.loop (S := Nat) (fun s => match s with | k => k ≤ l.length) (fun s => match s with | k => [(0, .slice A l.length c), (3, .int .i64 (sumTo l k)), (4, .int .i64 (k : Int))]) (fun s => match s with | k => []) (fun s => match s with | k => l.length - k) 0 ?_ (SubE.cons rfl (SubE.cons rfl (SubE.cons rfl (SubE.nil _)))) (List.Sublist.refl _) ?_
  · exact Nat.zero_le _
  · rintro k hk
    show Run _ _ _ _ _ [(0, .slice A l.length c), (3, .int .i64 (sumTo l k)), (4, .int .i64 (k : Int))] [] _
    have hsb := sumTo_bnd hb (n := k) hk
    have hbk := hb k
    refine Run.seq ?_
    refine Run.seq ?_
    refine Run.quiet (by intro h; cases h) ?_
    refine QOps.st rfl rfl (Yv.move rfl).yl ?_
    refine QOps.st rfl rfl (Yv.move rfl).yl ?_
    refine QOps.st rfl rfl (Yv.lenS el22s rfl).yl ?_
    refine QOps.st rfl rfl (Yv.lss rfl rfl).yl ?_
    refine QOps.nil ?_
    refine Run.cond rfl (fun hc1 => ?_) (fun hc1 => ?_)
    · try replace hc1 := of_decide_eq_true hc1
      refine Run.skip ?_
      refine Run.seq ?_
      refine Run.block ?_
      refine Run.quiet (by intro h; cases h) ?_
      refine QOps.st rfl rfl (Yv.move rfl).yl ?_
      refine QOps.st rfl rfl (Yv.move rfl).yl ?_
      refine QOps.st rfl rfl (Yv.move rfl).yl ?_
      refine QOps.st rfl rfl (Yv.indexAddr k el22 rfl rfl rfl (Rd.arg hs) (by omega)).yl ?_
      refine QOps.st rfl rfl (Yv.loadE lay3 rfl intC_len (Rd.arg hs) (by first | omega | (simp; omega)) rfl).yl ?_
      refine QOps.st rfl rfl (Yv.add rfl rfl (by omega)).yl ?_
      refine QOps.st rfl rfl (Yv.assign rfl).yl ?_
      refine QOps.nil ?_
      refine Run.quiet (by intro h; cases h) ?_
      refine QOps.st rfl rfl (Yv.move rfl).yl ?_
      refine QOps.st rfl rfl (Yv.succN rfl rfl (by omega)).yl ?_
      refine QOps.st rfl rfl (Yv.assign rfl).yl ?_
      refine QOps.nil ?_
      refine ⟨k + 1, ?_, ?_, (SubE.cons rfl (SubE.cons rfl (SubE.cons rfl (SubE.nil _)))), (List.Sublist.refl _)⟩
      · show k + 1 ≤ _; omega
      · first | omega | (dsimp only; omega)
    · try replace hc1 := of_decide_eq_false hc1
      refine Run.exit ?_
      refine Run.seq ?_
      refine Run.quiet (by intro h; cases h) ?_
      refine QOps.st rfl rfl (Yv.move rfl).yl ?_
      refine QOps.st rfl rfl (Yv.assign rfl).yl ?_
      refine QOps.nil ?_
      refine Run.ret ?_
      obtain rfl : k = l.length := by omega
      refine retQ.of (.inr rfl) rfl (.tmp rfl .nil) (fun w' hw' => ?_)
      refine ⟨?_, hw'.bel.below⟩
      exact rfl
theorem DrawIsValidConvoy_spec {w : World} {A : Option Addr} {c : Nat} {xs : List UInt8} (hs : Sl w 1 A xs.length c (xs.flatMap byteC)) :
    Calls Try.prog 78 #[.slice A xs.length c] w (RetER w 3 1 intC (fun (x : Int × List Int) => x.2) (fun x v => .agg #[.int .i64 x.1, v]) (fun x => x.2.length ≤ 20)) := by
  refine calls_of_run (vs := [_]) (L := [(0, _)]) (n := 9) (F := []) (H := []) Try.func78 rfl rfl rfl rfl (HOk.start _) ?_
  refine Run.seq ?_
  refine Run.ops ?_
  refine SOps.one rfl (One.alloc rfl zero27 (fun b1 => ?_))
  refine SOps.nil ?_
  refine Run.seq ?_
  refine Run.ops ?_
  refine SOps.st rfl rfl (Yv.move rfl).yl ?_
  refine SOps.st rfl rfl (Yv.buildG (pv := [(0, _)]) (cs := [_, _, _]) (fun l => match l with | [a0_0] => [a0_0, .int .i64 0, .int .u64 0] | _ => []) (.cons rfl (.nil)) rfl rfl (by kernel_rfl)).yl ?_
  refine SOps.one rfl (One.box (cs := [_, _, _]) rfl rfl rfl (fun b2 => ?_))
  refine SOps.st rfl rfl (Yv.assign rfl).yl ?_
  refine SOps.nil ?_
  refine Run.seq ?_
  refine Run.ops ?_
  refine SOps.st rfl rfl (Yv.move rfl).yl ?_
  refine SOps.one rfl (One.callCR (i := 0) (H' := fun _ _ => [_, _]) rfl callable60 (.cons rfl (.nil)) rfl (fun w' hw' => convoy_spec (Cur.own hs (i := 0) rfl hw') (by omega) (by omega)) (fun _ _ => rfl) (fun x1 Aq1 cq1 at1 sd1 hx1 ha1 hb1 => ?_))
  refine SOps.one rfl (One.store (i := 2) (off := 0) (vs := [_, _]) (cs' := [_, _]) (H' := [_, _, _]) lay27 rfl rfl rfl rfl rfl rfl rfl rfl rfl rfl ?_)
  refine SOps.nil ?_
  refine Run.ret ?_
  refine retQ.of (.inr rfl) rfl (.cells (i := 2) rfl lay27 rfl rfl .nil) (fun w' hw' => ?_)
  exact retER_of ((_, x1.2)) (by first | rfl | simp) rfl (by first | exact hx1 | omega) hw'.bel.below (hw'.ent _ (List.mem_of_getElem? (i := 0) rfl)) (fun b hb => (hw'.own _ (List.mem_of_getElem? (i := 0) rfl) b hb).elim id (by simp))

theorem DrawConvoyLength_spec {w : World} {A : Option Addr} {c : Nat} {xs : List UInt8} (hs : Sl w 1 A xs.length c (xs.flatMap byteC)) :
    Calls Try.prog 52 #[.slice A xs.length c] w (RetER w 3 1 intC (fun (x : Int × List Int) => x.2) (fun x v => .agg #[.int .i64 x.1, v]) (fun x => x.2.length ≤ 20)) := by
  refine calls_of_run (vs := [_]) (L := [(0, _)]) (n := 5) (F := []) (H := []) Try.func52 rfl rfl rfl rfl (HOk.start _) ?_
  refine Run.seq ?_
  refine Run.ops ?_
  refine SOps.one rfl (One.alloc rfl zero27 (fun b1 => ?_))
  refine SOps.nil ?_
  refine Run.seq ?_
  refine Run.ops ?_
  refine SOps.st rfl rfl (Yv.move rfl).yl ?_
  refine SOps.one rfl (One.callER rfl callable78 (.cons rfl (.nil)) (fun w' hw' => DrawIsValidConvoy_spec ((Rd.arg hs) w' hw')) ?_)
  rintro ⟨ya1, yb1⟩ Aq1 cq1 hx1
  try dsimp only at *
  refine SOps.one rfl (One.store (i := 1) (off := 0) (vs := [_, _]) (cs' := [_, _]) (H' := [_, _]) lay27 rfl rfl rfl rfl rfl rfl rfl rfl rfl rfl ?_)
  refine SOps.nil ?_
  refine Run.ret ?_
  refine retQ.of (.inr rfl) rfl (.cells (i := 1) rfl lay27 rfl rfl .nil) (fun w' hw' => ?_)
  exact retER_of ((_, yb1)) (by first | rfl | simp) rfl (by first | exact hx1 | omega) hw'.bel.below (hw'.ent _ (List.mem_of_getElem? (i := 0) rfl)) (fun b hb => (hw'.own _ (List.mem_of_getElem? (i := 0) rfl) b hb).elim id (by simp))

theorem DrawLeaveBarges_spec {w : World} {A : Option Addr} {c : Nat} {xs : List UInt8} (hs : Sl w 1 A xs.length c (xs.flatMap byteC)) :
    Calls Try.prog 48 #[.slice A xs.length c] w (RetER w 3 1 intC (fun (x : Int × List Int × Int × Int) => x.2.1) (fun x v => .tuple #[.agg #[.int .i64 x.1, v], .int .i64 x.2.2.1, .int .i64 x.2.2.2]) (fun x => x.2.1.length ≤ 20)) := by
  refine calls_of_run (vs := [_]) (L := [(0, _)]) (n := 25) (F := []) (H := []) Try.func48 rfl rfl rfl rfl (HOk.start _) ?_
  refine Run.seq ?_
  refine Run.ops ?_
  refine SOps.one rfl (One.alloc rfl zero27 (fun b1 => ?_))
  refine SOps.st rfl rfl (Yv.assign rfl).yl ?_
  refine SOps.st rfl rfl (Yv.assign rfl).yl ?_
  refine SOps.nil ?_
  refine Run.seq ?_
  refine Run.ops ?_
  refine SOps.st rfl rfl (Yv.move rfl).yl ?_
  refine SOps.st rfl rfl (Yv.buildG (pv := [(0, _)]) (cs := [_, _, _]) (fun l => match l with | [a0_0] => [a0_0, .int .i64 0, .int .u64 0] | _ => []) (.cons rfl (.nil)) rfl rfl (by kernel_rfl)).yl ?_
  refine SOps.one rfl (One.box (cs := [_, _, _]) rfl rfl rfl (fun b2 => ?_))
  refine SOps.st rfl rfl (Yv.assign rfl).yl ?_
  refine SOps.nil ?_
  refine Run.seq ?_
  refine Run.ops ?_
  refine SOps.st rfl rfl (Yv.move rfl).yl ?_
  refine SOps.one rfl (One.callCR (i := 0) (H' := fun _ _ => [_, _]) rfl callable60 (.cons rfl (.nil)) rfl (fun w' hw' => convoy_spec (Cur.own hs (i := 0) rfl hw') (by omega) (by omega)) (fun _ _ => rfl) (fun x1 Aq1 cq1 at1 sd1 hx1 ha1 hb1 => ?_))
  refine SOps.one rfl (One.alloc rfl zero27 (fun b3 => ?_))
  refine SOps.one rfl (One.store (i := 0) (off := 0) (vs := [_, _]) (cs' := [_, _]) (H' := [_, _, _, _]) lay27 rfl rfl rfl rfl rfl rfl rfl rfl rfl rfl ?_)
  refine SOps.nil ?_
  refine Run.seq ?_
  refine Run.draws (fun H => ((H).eraseIdx 3).eraseIdx 2) (m := 16) (listed := #[false, false, false, false, false, false, false, false, false, false, false, false, false, false, false, false]) (by kernel_rfl) rfl rfl ?_
  refine DOps.take (listed' := #[true, false, false, false, false, false, false, false, false, false, false, false, false, false, false, false]) 0 rfl (by kernel_rfl) rfl (List.Sublist.cons_cons _ (List.Sublist.cons_cons _ (List.nil_sublist _))) rfl rfl (Yv.loadBs (i := 0) lay27 rfl rfl rfl rfl) ?_
  refine DOps.take (listed' := #[true, true, false, false, false, false, false, false, false, false, false, false, false, false, false, false]) 1 rfl (by kernel_rfl) rfl (List.Sublist.cons_cons _ (List.Sublist.cons_cons _ (List.nil_sublist _))) rfl rfl (Yv.move rfl) ?_
  refine DOps.take (listed' := #[true, true, true, false, false, false, false, false, false, false, false, false, false, false, false, false]) 2 rfl (by kernel_rfl) rfl (List.Sublist.cons_cons _ (List.Sublist.cons_cons _ (List.nil_sublist _))) rfl rfl (Yv.fieldAddr fld27_1 rfl) ?_
  refine DOps.take (listed' := #[true, true, true, true, false, false, false, false, false, false, false, false, false, false, false, false]) 3 rfl (by kernel_rfl) rfl (List.Sublist.cons_cons _ (List.Sublist.cons_cons _ (List.nil_sublist _))) rfl rfl (Yv.loadB (i := 0) lay22 rfl rfl rfl rfl) ?_
  refine DOps.take (listed' := #[true, true, true, true, true, false, false, false, false, false, false, false, false, false, false, false]) 4 rfl (by kernel_rfl) rfl (List.Sublist.cons_cons _ (List.Sublist.cons_cons _ (List.nil_sublist _))) rfl rfl (Yv.lenS el22s rfl) ?_
  refine DOps.take (listed' := #[true, true, true, true, true, true, false, false, false, false, false, false, false, false, false, false]) 5 rfl (by kernel_rfl) rfl (List.Sublist.cons_cons _ (List.Sublist.cons_cons _ (List.nil_sublist _))) rfl rfl (Yv.succN rfl rfl (by omega)) ?_
  refine DOps.take (listed' := #[true, true, true, true, true, true, false, true, false, false, false, false, false, false, false, false]) 7 rfl (by kernel_rfl) rfl (List.Sublist.cons_cons _ (List.Sublist.cons_cons _ (List.nil_sublist _))) rfl rfl (Yv.move rfl) ?_
  refine DOps.take (listed' := #[true, true, true, true, true, true, false, true, false, false, false, true, false, false, false, false]) 11 rfl (by kernel_rfl) rfl (List.Sublist.cons_cons _ (List.Sublist.cons_cons _ (List.nil_sublist _))) rfl rfl (Yv.move rfl) ?_
  refine DOps.only (listed' := #[true, true, true, true, true, true, true, true, false, false, false, true, false, false, false, false]) 6 rfl (by kernel_rfl) rfl rfl ?_
  refine One.callC (i := 2) (H' := fun _ _ => [_, _, _, _]) rfl callable77 (.cons rfl (.cons rfl (.nil))) rfl (fun w' hw' => pick_spec (Cur.own hs (i := 2) rfl hw') (by omega) (by omega)) (fun _ _ => rfl) (fun x2 at2 sd2 ⟨hxl2, hxh2⟩ ha2 hb2 => ?_)
  refine ⟨(List.Sublist.cons_cons _ (List.Sublist.cons_cons _ (List.nil_sublist _))), ?_⟩
  refine DOps.only (listed' := #[true, true, true, true, true, true, true, true, true, false, false, true, false, false, false, false]) 8 rfl (by kernel_rfl) rfl rfl ?_
  refine One.callC (i := 2) (H' := fun _ _ => [_, _, _, _]) rfl callable77 (.cons rfl (.cons rfl (.nil))) rfl (fun w' hw' => pick_spec (Cur.own hs (i := 2) rfl hw') (by omega) (by omega)) (fun _ _ => rfl) (fun x3 at3 sd3 ⟨hxl3, hxh3⟩ ha3 hb3 => ?_)
  refine ⟨(List.Sublist.cons_cons _ (List.Sublist.cons_cons _ (List.nil_sublist _))), ?_⟩
  refine DOps.take (listed' := #[true, true, true, true, true, true, true, true, true, true, false, true, false, false, false, false]) 9 rfl (by kernel_rfl) rfl (List.Sublist.cons_cons _ (List.Sublist.cons_cons _ (List.nil_sublist _))) rfl rfl (Yv.quoP rfl rfl (by omega) (by omega) (by omega)) ?_
  refine DOps.take (listed' := #[true, true, true, true, true, true, true, true, true, true, true, true, false, false, false, false]) 10 rfl (by kernel_rfl) rfl (List.Sublist.cons_cons _ (List.Sublist.cons_cons _ (List.nil_sublist _))) rfl rfl (Yv.sub rfl rfl (by omega)) ?_
  refine DOps.only (listed' := #[true, true, true, true, true, true, true, true, true, true, true, true, true, false, false, false]) 12 rfl (by kernel_rfl) rfl rfl ?_
  refine One.callC (i := 2) (H' := fun _ _ => [_, _, _, _]) rfl callable77 (.cons rfl (.cons rfl (.nil))) rfl (fun w' hw' => pick_spec (Cur.own hs (i := 2) rfl hw') (by omega) (by omega)) (fun _ _ => rfl) (fun x4 at4 sd4 ⟨hxl4, hxh4⟩ ha4 hb4 => ?_)
  refine ⟨(List.Sublist.cons_cons _ (List.Sublist.cons_cons _ (List.nil_sublist _))), ?_⟩
  refine DOps.only (listed' := #[true, true, true, true, true, true, true, true, true, true, true, true, true, true, false, false]) 13 rfl (by kernel_rfl) rfl rfl ?_
  refine One.store (i := 3) (off := 0) (vs := [_, _]) (cs' := [_, _]) (H' := [_, _, _, _]) lay27 rfl rfl rfl rfl rfl rfl rfl rfl rfl rfl ?_
  refine ⟨(List.Sublist.cons_cons _ (List.Sublist.cons_cons _ (List.nil_sublist _))), ?_⟩
  refine DOps.take (listed' := #[true, true, true, true, true, true, true, true, true, true, true, true, true, true, true, false]) 14 rfl (by kernel_rfl) rfl (List.Sublist.cons_cons _ (List.Sublist.cons_cons _ (List.nil_sublist _))) rfl rfl (Yv.assign rfl) ?_
  refine DOps.take (listed' := #[true, true, true, true, true, true, true, true, true, true, true, true, true, true, true, true]) 15 rfl (by kernel_rfl) rfl (List.Sublist.cons_cons _ (List.Sublist.cons_cons _ (List.nil_sublist _))) rfl rfl (Yv.assign rfl) ?_
  refine DOps.done (by kernel_rfl) ?_
  refine Run.ret ?_
  refine retQ.of (.inr rfl) rfl (.cells (i := 3) rfl lay27 rfl rfl (.tmp rfl (.tmp rfl .nil))) (fun w' hw' => ?_)
  exact retER_of ((_, x1.2, _, _)) (by first | rfl | simp) rfl (by first | exact hx1 | omega) hw'.bel.below (hw'.ent _ (List.mem_of_getElem? (i := 1) rfl)) (fun b hb => (hw'.own _ (List.mem_of_getElem? (i := 1) rfl) b hb).elim id (by simp))

theorem DrawShortestChamber_spec {w : World} {A : Option Addr} {c : Nat} {xs : List UInt8} (hs : Sl w 1 A xs.length c (xs.flatMap byteC)) :
    Calls Try.prog 51 #[.slice A xs.length c] w (RetER w 3 1 intC (fun (x : Int × List Int × Int) => x.2.1) (fun x v => .tuple #[.agg #[.int .i64 x.1, v], .int .i64 x.2.2]) (fun x => x.2.1.length ≤ 20)) := by
  refine calls_of_run (vs := [_]) (L := [(0, _)]) (n := 12) (F := []) (H := []) Try.func51 rfl rfl rfl rfl (HOk.start _) ?_
  refine Run.seq ?_
  refine Run.ops ?_
  refine SOps.one rfl (One.alloc rfl zero27 (fun b1 => ?_))
  refine SOps.st rfl rfl (Yv.assign rfl).yl ?_
  refine SOps.nil ?_
  refine Run.seq ?_
  refine Run.ops ?_
  refine SOps.st rfl rfl (Yv.move rfl).yl ?_
  refine SOps.st rfl rfl (Yv.buildG (pv := [(0, _)]) (cs := [_, _, _]) (fun l => match l with | [a0_0] => [a0_0, .int .i64 0, .int .u64 0] | _ => []) (.cons rfl (.nil)) rfl rfl (by kernel_rfl)).yl ?_
  refine SOps.one rfl (One.box (cs := [_, _, _]) rfl rfl rfl (fun b2 => ?_))
  refine SOps.st rfl rfl (Yv.assign rfl).yl ?_
  refine SOps.nil ?_
  refine Run.seq ?_
  refine Run.ops ?_
  refine SOps.st rfl rfl (Yv.move rfl).yl ?_
  refine SOps.one rfl (One.callCR (i := 0) (H' := fun _ _ => [_, _]) rfl callable60 (.cons rfl (.nil)) rfl (fun w' hw' => convoy_spec (Cur.own hs (i := 0) rfl hw') (by omega) (by omega)) (fun _ _ => rfl) (fun x1 Aq1 cq1 at1 sd1 hx1 ha1 hb1 => ?_))
  refine SOps.st rfl rfl (Yv.move rfl).yl ?_
  refine SOps.one rfl (One.callC (i := 1) (H' := fun _ _ => [_, _, _]) rfl callable77 (.cons rfl (.cons rfl (.nil))) rfl (fun w' hw' => pick_spec (Cur.own hs (i := 1) rfl hw') (by omega) (by omega)) (fun _ _ => rfl) (fun x2 at2 sd2 ⟨hxl2, hxh2⟩ ha2 hb2 => ?_))
  refine SOps.one rfl (One.store (i := 2) (off := 0) (vs := [_, _]) (cs' := [_, _]) (H' := [_, _, _]) lay27 rfl rfl rfl rfl rfl rfl rfl rfl rfl rfl ?_)
  refine SOps.st rfl rfl (Yv.assign rfl).yl ?_
  refine SOps.nil ?_
  refine Run.ret ?_
  refine retQ.of (.inr rfl) rfl (.cells (i := 2) rfl lay27 rfl rfl (.tmp rfl .nil)) (fun w' hw' => ?_)
  exact retER_of ((_, x1.2, _)) (by first | rfl | simp) rfl (by first | exact hx1 | omega) hw'.bel.below (hw'.ent _ (List.mem_of_getElem? (i := 0) rfl)) (fun b hb => (hw'.own _ (List.mem_of_getElem? (i := 0) rfl) b hb).elim id (by simp))

theorem Run.capRow {P : Program} {n i m cc sz : Nat} {w0 : World} {F : List Nat} {H : List HEnt} {L : Env} {T : TypeId} {A : Option Addr} {xs : List Value} {c : Code} {Q : Exit → Env → List HEnt → Prop} (hi : H[i]? = some (.row A cc T sz m xs)) (h : m ≤ cc → Run P n w0 F c L H Q) : Run P n w0 F c L H Q :=
  fun a w ha hw => h ((sl_of_row (hw.ent _ (List.mem_of_getElem? hi))).cap) a w ha hw
theorem DrawJoinConvoys_spec {w : World} {A : Option Addr} {c : Nat} {xs : List UInt8} (hs : Sl w 1 A xs.length c (xs.flatMap byteC)) :
    Calls Try.prog 50 #[.slice A xs.length c] w (RetER2 w 3 1 intC (fun (x : Int × List Int × Int × List Int) => x.2.1) 3 1 intC (fun x => x.2.2.2) (fun x v v2 => .tuple #[.agg #[.int .i64 x.1, v], .agg #[.int .i64 x.2.2.1, v2]]) (fun x => x.2.1.length ≤ 20 ∧ x.2.2.2.length ≤ 20)) := by
  refine calls_of_run (vs := [_]) (L := [(0, _)]) (n := 24) (F := []) (H := []) Try.func50 rfl rfl rfl rfl (HOk.start _) ?_
  refine Run.seq ?_
  refine Run.ops ?_
  refine SOps.one rfl (One.alloc rfl zero27 (fun b1 => ?_))
  refine SOps.one rfl (One.alloc rfl zero27 (fun b2 => ?_))
  refine SOps.nil ?_
  refine Run.seq ?_
  refine Run.ops ?_
  refine SOps.st rfl rfl (Yv.move rfl).yl ?_
  refine SOps.st rfl rfl (Yv.buildG (pv := [(0, _)]) (cs := [_, _, _]) (fun l => match l with | [a0_0] => [a0_0, .int .i64 0, .int .u64 0] | _ => []) (.cons rfl (.nil)) rfl rfl (by kernel_rfl)).yl ?_
  refine SOps.one rfl (One.box (cs := [_, _, _]) rfl rfl rfl (fun b3 => ?_))
  refine SOps.st rfl rfl (Yv.assign rfl).yl ?_
  refine SOps.nil ?_
  refine Run.seq ?_
  refine Run.ops ?_
  refine SOps.st rfl rfl (Yv.move rfl).yl ?_
  refine SOps.one rfl (One.callCR (i := 0) (H' := fun _ _ => [_, _, _]) rfl callable60 (.cons rfl (.nil)) rfl (fun w' hw' => convoy_spec (Cur.own hs (i := 0) rfl hw') (by omega) (by omega)) (fun _ _ => rfl) (fun x1 Aq1 cq1 at1 sd1 hx1 ha1 hb1 => ?_))
  refine SOps.st rfl rfl (Yv.move rfl).yl ?_
  refine SOps.one rfl (One.callCR (i := 1) (H' := fun _ _ => [_, _, _, _]) rfl callable60 (.cons rfl (.nil)) rfl (fun w' hw' => convoy_spec (Cur.own hs (i := 1) rfl hw') (by omega) (by omega)) (fun _ _ => rfl) (fun x2 Aq2 cq2 at2 sd2 hx2 ha2 hb2 => ?_))
  refine SOps.one rfl (One.alloc rfl zero27 (fun b4 => ?_))
  refine SOps.one rfl (One.alloc rfl zero27 (fun b5 => ?_))
  refine SOps.one rfl (One.store (i := 1) (off := 0) (vs := [_, _]) (cs' := [_, _]) (H' := [_, _, _, _, _, _, _]) lay27 rfl rfl rfl rfl rfl rfl rfl rfl rfl rfl ?_)
  refine SOps.one rfl (One.store (i := 0) (off := 0) (vs := [_, _]) (cs' := [_, _]) (H' := [_, _, _, _, _, _, _]) lay27 rfl rfl rfl rfl rfl rfl rfl rfl rfl rfl ?_)
  refine SOps.nil ?_
  refine Run.seq ?_
  refine Run.seq ?_
  refine Run.quiet (by intro h; cases h) ?_
  refine QOps.st rfl rfl (Yv.fieldAddr fld27_1 rfl).yl ?_
  refine QOps.st rfl rfl (Yv.loadB (i := 0) lay22 rfl rfl rfl rfl).yl ?_
  refine QOps.st rfl rfl (Yv.lenS el22s rfl).yl ?_
  refine QOps.st rfl rfl (Yv.gtr rfl rfl).yl ?_
  refine QOps.nil ?_
  refine Run.cond rfl (fun hc1 => ?_) (fun hc1 => ?_)
  · try replace hc1 := of_decide_eq_true hc1
    have htk : (x2.2.take 2).length = 2 := by simp; omega
    refine Run.capRow (i := 2) rfl (fun hcp => ?_)
    refine Run.ops ?_
    refine SOps.st rfl rfl (Yv.fieldAddr fld27_1 rfl).yl ?_
    refine SOps.st rfl rfl (Yv.loadB (i := 0) lay22 rfl rfl rfl rfl).yl ?_
    refine SOps.st rfl rfl (Yv.cutTo0 2 el22 rfl rfl rfl (by omega)).yl ?_
    refine SOps.st rfl rfl (Yv.fieldAddr fld27_1 rfl).yl ?_
    refine SOps.one rfl (One.store (i := 0) (off := 1) (vs := [_]) (cs' := [_, _]) (H' := [_, _, _, _, _, _, _]) lay22 rfl rfl rfl rfl rfl rfl rfl rfl rfl rfl ?_)
    refine SOps.nil ?_
    refine Run.seq ?_
    refine Run.lessRow (l := x2.2) (m' := 2) (i := 2) (H' := [_, _, _, _, _, _, _]) intC_len rfl (by omega) rfl ?_
    refine Run.draws (fun H => ((H).eraseIdx 6).eraseIdx 5) (m := 4) (listed := #[false, false, false, false]) (by kernel_rfl) rfl rfl ?_
    refine DOps.take (listed' := #[true, false, false, false]) 0 rfl (by kernel_rfl) rfl (List.Sublist.cons_cons _ (List.Sublist.cons_cons _ (List.Sublist.cons_cons _ (List.Sublist.cons_cons _ (List.Sublist.cons_cons _ (List.nil_sublist _)))))) rfl rfl (Yv.loadBs (i := 1) lay27 rfl rfl rfl rfl) ?_
    refine DOps.take (listed' := #[true, true, false, false]) 1 rfl (by kernel_rfl) rfl (List.Sublist.cons_cons _ (List.Sublist.cons_cons _ (List.Sublist.cons_cons _ (List.Sublist.cons_cons _ (List.Sublist.cons_cons _ (List.nil_sublist _)))))) rfl rfl (Yv.loadBs (i := 0) lay27 rfl rfl rfl rfl) ?_
    refine DOps.only (listed' := #[true, true, true, false]) 2 rfl (by kernel_rfl) rfl rfl ?_
    refine One.store (i := 6) (off := 0) (vs := [_, _]) (cs' := [_, _]) (H' := [_, _, _, _, _, _, _]) lay27 rfl rfl rfl rfl rfl rfl rfl rfl rfl rfl ?_
    refine ⟨(List.Sublist.cons_cons _ (List.Sublist.cons_cons _ (List.Sublist.cons_cons _ (List.Sublist.cons_cons _ (List.Sublist.cons_cons _ (List.nil_sublist _)))))), ?_⟩
    refine DOps.only (listed' := #[true, true, true, true]) 3 rfl (by kernel_rfl) rfl rfl ?_
    refine One.store (i := 5) (off := 0) (vs := [_, _]) (cs' := [_, _]) (H' := [_, _, _, _, _, _, _]) lay27 rfl rfl rfl rfl rfl rfl rfl rfl rfl rfl ?_
    refine ⟨(List.Sublist.cons_cons _ (List.Sublist.cons_cons _ (List.Sublist.cons_cons _ (List.Sublist.cons_cons _ (List.Sublist.cons_cons _ (List.nil_sublist _)))))), ?_⟩
    refine DOps.done (by kernel_rfl) ?_
    refine Run.ret ?_
    refine retQ.of (.inr rfl) rfl (.cells (i := 6) rfl lay27 rfl rfl (.cells (i := 5) rfl lay27 rfl rfl .nil)) (fun w' hw' => ?_)
    refine ⟨(x1.1, x1.2, x2.1, x2.2.take 2), ⟨by omega, by dsimp only; omega⟩, ?_⟩
    dsimp only
    rw [htk]
    exact retRow2_own (i := 3) (j := 2) hw' rfl rfl rfl rfl
  · try replace hc1 := of_decide_eq_false hc1
    refine Run.skip ?_
    refine Run.seq ?_
    refine Run.draws (fun H => ((H).eraseIdx 6).eraseIdx 5) (m := 4) (listed := #[false, false, false, false]) (by kernel_rfl) rfl rfl ?_
    refine DOps.take (listed' := #[true, false, false, false]) 0 rfl (by kernel_rfl) rfl (List.Sublist.cons_cons _ (List.Sublist.cons_cons _ (List.Sublist.cons_cons _ (List.Sublist.cons_cons _ (List.Sublist.cons_cons _ (List.nil_sublist _)))))) rfl rfl (Yv.loadBs (i := 1) lay27 rfl rfl rfl rfl) ?_
    refine DOps.take (listed' := #[true, true, false, false]) 1 rfl (by kernel_rfl) rfl (List.Sublist.cons_cons _ (List.Sublist.cons_cons _ (List.Sublist.cons_cons _ (List.Sublist.cons_cons _ (List.Sublist.cons_cons _ (List.nil_sublist _)))))) rfl rfl (Yv.loadBs (i := 0) lay27 rfl rfl rfl rfl) ?_
    refine DOps.only (listed' := #[true, true, true, false]) 2 rfl (by kernel_rfl) rfl rfl ?_
    refine One.store (i := 6) (off := 0) (vs := [_, _]) (cs' := [_, _]) (H' := [_, _, _, _, _, _, _]) lay27 rfl rfl rfl rfl rfl rfl rfl rfl rfl rfl ?_
    refine ⟨(List.Sublist.cons_cons _ (List.Sublist.cons_cons _ (List.Sublist.cons_cons _ (List.Sublist.cons_cons _ (List.Sublist.cons_cons _ (List.nil_sublist _)))))), ?_⟩
    refine DOps.only (listed' := #[true, true, true, true]) 3 rfl (by kernel_rfl) rfl rfl ?_
    refine One.store (i := 5) (off := 0) (vs := [_, _]) (cs' := [_, _]) (H' := [_, _, _, _, _, _, _]) lay27 rfl rfl rfl rfl rfl rfl rfl rfl rfl rfl ?_
    refine ⟨(List.Sublist.cons_cons _ (List.Sublist.cons_cons _ (List.Sublist.cons_cons _ (List.Sublist.cons_cons _ (List.Sublist.cons_cons _ (List.nil_sublist _)))))), ?_⟩
    refine DOps.done (by kernel_rfl) ?_
    refine Run.ret ?_
    refine retQ.of (.inr rfl) rfl (.cells (i := 6) rfl lay27 rfl rfl (.cells (i := 5) rfl lay27 rfl rfl .nil)) (fun w' hw' => ?_)
    exact ⟨(x1.1, x1.2, x2.1, x2.2), ⟨by omega, by dsimp only; omega⟩, retRow2_own (i := 3) (j := 2) hw' rfl rfl rfl rfl⟩
end Go.Proofs.Ytfpglglolhlegaa
