/- Convoys: what the law of splits draws, and the law. Conditions: none. -/
import Derived.Test.YtfpglglolhlegaaConG
namespace Go.Proofs.Ytfpglglolhlegaa
open Go.RowKit
set_option maxRecDepth 100000
theorem sumTo_bnd2 {l : List Int} (h : ∀ x ∈ l, 0 ≤ x ∧ x ≤ 20) : ∀ {n : Nat}, n ≤ l.length → 0 ≤ sumTo l n ∧ sumTo l n ≤ 20 * (n : Int)
  | 0, _ => by simp [sumTo]
  | n + 1, hn => by
    have ih := sumTo_bnd2 h (n := n) (by omega)
    have h1 := h (nth l n) (nth_mem (by omega))
    rw [sumTo]; omega
theorem vSum2_spec {w : World} {A : Option Addr} {c : Nat} {l : List Int} (hs : Sl w 1 A l.length c (l.flatMap intC)) (hl : l.length ≤ 1000) (hb : ∀ x ∈ l, 0 ≤ x ∧ x ≤ 20) :
    Calls Try.prog 35 #[.slice A l.length c] w (RetB w (.int .i64 (sumTo l l.length))) := by
  refine calls_of_run (vs := [_]) (L := [(0, _)]) (n := 18) (F := []) (H := []) Try.func35 rfl rfl rfl rfl (HOk.start _) ?_
  refine Run.seq ?_
  refine Run.quiet (by intro h; cases h) ?_
  refine QOps.st rfl rfl (Yv.assign rfl).yl ?_
  refine QOps.nil ?_
  refine Run.seq ?_
  refine Run.quiet (by intro h; cases h) ?_
  refine QOps.st rfl rfl (Yv.assign rfl).yl ?_
  refine QOps.nil ?_
  refine Run.seq ?_
  refine Run.seq ?_
  refine Run.quiet (by intro h; cases h) ?_
  refine QOps.st rfl rfl (Yv.assign rfl).yl ?_
  refine QOps.nil ?_
  refine Run.block ?_
  refine Run.loop (S := Nat) (fun s => match s with | k => k ≤ l.length) (fun s => match s with | k => [(0, .slice A l.length c), (3, .int .i64 (sumTo l k)), (4, .int .i64 (k : Int))]) (fun s => match s with | k => []) (fun s => match s with | k => l.length - k) 0 ?_ (SubE.cons rfl (SubE.cons rfl (SubE.cons rfl (SubE.nil _)))) (List.Sublist.refl _) ?_
  · exact Nat.zero_le _
  · rintro k hk
    show Run _ _ _ _ _ [(0, .slice A l.length c), (3, .int .i64 (sumTo l k)), (4, .int .i64 (k : Int))] [] _
    refine Run.seq ?_
    refine Run.seq ?_
    refine Run.quiet (by intro h; cases h) ?_
    refine QOps.st rfl rfl (Yv.move rfl).yl ?_
    refine QOps.st rfl rfl (Yv.move rfl).yl ?_
    refine QOps.st rfl rfl (Yv.lenS el22s rfl).yl ?_
    refine QOps.st rfl rfl (Yv.lss rfl rfl).yl ?_
    refine QOps.nil ?_
    refine Run.cond rfl (fun hc1 => ?_) (fun hc1 => ?_)
    · try replace hc1 := of_decide_eq_true hc1
      have hsb := sumTo_bnd2 hb (n := k) hk
      have hbk := hb (nth l k) (nth_mem (by omega))
      refine Run.skip ?_
      refine Run.seq ?_
      refine Run.block ?_
      refine Run.quiet (by intro h; cases h) ?_
      refine QOps.st rfl rfl (Yv.move rfl).yl ?_
      refine QOps.st rfl rfl (Yv.move rfl).yl ?_
      refine QOps.st rfl rfl (Yv.move rfl).yl ?_
      refine QOps.st rfl rfl (Yv.indexAddr k el22 rfl rfl rfl (Rd.arg hs) (by omega)).yl ?_
      refine QOps.st rfl rfl (Yv.loadE lay3 rfl intC_len (Rd.arg hs) (by first | omega | (simp; omega)) rfl).yl ?_
      refine QOps.st rfl rfl (Yv.add rfl rfl (by omega)).yl ?_
      refine QOps.st rfl rfl (Yv.assign rfl).yl ?_
      refine QOps.nil ?_
      refine Run.quiet (by intro h; cases h) ?_
      refine QOps.st rfl rfl (Yv.move rfl).yl ?_
      refine QOps.st rfl rfl (Yv.succN rfl rfl (by omega)).yl ?_
      refine QOps.st rfl rfl (Yv.assign rfl).yl ?_
      refine QOps.nil ?_
      refine ⟨k + 1, ?_, ?_, (SubE.cons rfl (SubE.cons rfl (SubE.cons rfl (SubE.nil _)))), (List.Sublist.refl _)⟩
      · show k + 1 ≤ _; omega
      · first | omega | (dsimp only; omega)
    · try replace hc1 := of_decide_eq_false hc1
      refine Run.exit ?_
      refine Run.seq ?_
      refine Run.quiet (by intro h; cases h) ?_
      refine QOps.st rfl rfl (Yv.move rfl).yl ?_
      refine QOps.st rfl rfl (Yv.assign rfl).yl ?_
      refine QOps.nil ?_
      refine Run.ret ?_
      obtain rfl : k = l.length := by omega
      refine retQ.of (.inr rfl) rfl (.tmp rfl .nil) (fun w' hw' => ?_)
      refine ⟨?_, hw'.bel.below⟩
      exact rfl
theorem chamberLength_spec {w : World} {g m c : Nat} {A : Option Addr} {xs : List UInt8} {at_ sd : Int}  (hc : Cur w 70 g A m c xs at_ sd) (h0 : 0 ≤ at_) (h1 : at_ ≤ 6000000000000000000)  : Calls Try.prog 61 #[.pointer (some ⟨g, 0, none⟩)] w (RetC w 70 g (.slice A m c) at_ 4 (fun (x : Int) => .int .i64 x) (fun _ => True)) := by
  refine calls_of_run (vs := [_]) (L := [(0, _)]) (n := 6) (F := [g]) (H := [_]) Try.func61 rfl rfl rfl rfl (HOk.lend hc) ?_
  refine Run.seq ?_
  refine Run.quiet (by intro h; cases h) ?_
  refine QOps.st rfl rfl (Yv.assign rfl).yl ?_
  refine QOps.nil ?_
  refine Run.seq ?_
  refine Run.ops ?_
  refine SOps.st rfl rfl (Yv.move rfl).yl ?_
  refine SOps.one rfl (One.buildSliceG (pv := [(0, _), (1, _), (2, _), (3, _), (4, _), (5, _), (6, _), (7, _), (8, _), (9, _), (10, _)]) (cs := [_, _, _, _, _, _, _, _, _, _, _]) (fun l => match l with | [a0_0, a1_0, a2_0, a3_0, a4_0, a5_0, a6_0, a7_0, a8_0, a9_0, a10_0] => [a0_0, a1_0, a2_0, a3_0, a4_0, a5_0, a6_0, a7_0, a8_0, a9_0, a10_0] | _ => []) rfl el22 (.cons rfl (.cons rfl (.cons rfl (.cons rfl (.cons rfl (.cons rfl (.cons rfl (.cons rfl (.cons rfl (.cons rfl (.cons rfl (.nil)))))))))))) rfl rfl (by kernel_rfl) rfl rfl (fun b1 => ?_))
  refine SOps.one rfl (One.callC (i := 1) (H' := fun _ _ => [_, _]) rfl callable80 (.cons rfl (.cons rfl (.nil))) rfl (fun w' hw' => among_spec (Cur.lent hc (i := 1) rfl hw') (by omega) (by omega) (l := [7, 8, 9, 10, 12, 15, 20, 21, 0, 5, 9]) ((Rd.row (i := 0) rfl) w' hw') (by simp; try omega) (by first | omega | simp) (by first | omega | simp) (fun hm => HOk.rowNe hw' (i := 1) (j := 0) rfl rfl rfl (by first | exact hm | omega))) (fun _ _ => rfl) (fun x1 at1 sd1 hx1 ha1 hb1 => ?_))
  refine SOps.st rfl rfl (Yv.assign rfl).yl ?_
  refine SOps.nil ?_
  refine Run.ret ?_
  refine retQ.of (.inr rfl) rfl (.tmp rfl .nil) (fun w' hw' => ?_)
  exact ⟨_, _, _, rfl, trivial, by omega, by omega, hw'.bel, hw'.ent _ (List.mem_of_getElem? (i := 1) rfl)⟩

set_option maxHeartbeats 1000000 in
theorem split_spec {w : World} {g m c c2 : Nat} {A A2 : Option Addr} {xs : List UInt8} {at_ sd p cl : Int} {l : List Int} (hc : Cur w 70 g A m c xs at_ sd) (h0 : 0 ≤ at_) (h1 : at_ ≤ 5000000000000000000) (hl : Sl w 1 A2 l.length c2 (l.flatMap intC)) (hl20 : l.length ≤ 20) (hne2 : 0 < l.length → (adr A2).block ≠ g) :
    Calls Try.prog 62 #[.pointer (some ⟨g, 0, none⟩), .agg #[.int .i64 p, .slice A2 l.length c2], .int .i64 cl] w (RetCR w 70 g (.slice A m c) at_ 100 3 1 intC (fun (x : List Int) => x) (fun _ v => v) (fun x => x.length ≤ 21)) := by
  have hgl := greedyOf_len (p := p) (l := l) (cl := cl)
  have hel := evenOf_len (p := p) (l := l) (cl := cl)
  refine calls_of_run (vs := [_, _, _]) (L := [(0, _), (1, _), (2, _)]) (n := 63) (F := [g]) (H := [_]) Try.func62 rfl rfl rfl rfl (HOk.lend hc) ?_
  refine Run.seq ?_
  refine Run.ops ?_
  refine SOps.one rfl (One.box (cs := [_, _]) rfl rfl rfl (fun b1 => ?_))
  refine SOps.st rfl rfl (Yv.assign rfl).yl ?_
  refine SOps.nil ?_
  refine Run.seq ?_
  refine Run.ops ?_
  refine SOps.st rfl rfl (Yv.loadBs (i := 0) lay27 rfl rfl rfl rfl).yl ?_
  refine SOps.st rfl rfl (Yv.move rfl).yl ?_
  refine SOps.one rfl (One.callRow rfl callable27 (.cons rfl (.cons rfl (.nil))) (fun w' hw' => sGreedySplit_spec ((Rd.argN hl (fun h => by simpa using hne2 h)) w' hw')) (fun A1 c1 => ?_))
  refine SOps.st rfl rfl (Yv.move rfl).yl ?_
  refine SOps.st rfl rfl (Yv.extract rfl rfl).yl ?_
  refine SOps.st rfl rfl (Yv.extract rfl rfl).yl ?_
  refine SOps.st rfl rfl (Yv.assign rfl).yl ?_
  refine SOps.st rfl rfl (Yv.assign rfl).yl ?_
  refine SOps.nil ?_
  refine Run.seq ?_
  refine Run.seq ?_
  refine Run.ops ?_
  refine SOps.st rfl rfl (Yv.loadBs (i := 1) lay27 rfl rfl rfl rfl).yl ?_
  refine SOps.st rfl rfl (Yv.move rfl).yl ?_
  refine SOps.one rfl (One.callRow rfl callable30 (.cons rfl (.cons rfl (.nil))) (fun w' hw' => sEvenSplit_spec ((Rd.argN hl (fun h => by simpa using hne2 h)) w' hw')) (fun A2 c2 => ?_))
  refine SOps.st rfl rfl (Yv.move rfl).yl ?_
  refine SOps.st rfl rfl (Yv.extract rfl rfl).yl ?_
  refine SOps.st rfl rfl (Yv.extract rfl rfl).yl ?_
  refine SOps.st rfl rfl (Yv.assign rfl).yl ?_
  refine SOps.st rfl rfl (Yv.assign rfl).yl ?_
  refine SOps.nil ?_
  refine Run.seq ?_
  refine Run.ops ?_
  refine SOps.st rfl rfl (Yv.move rfl).yl ?_
  refine SOps.st rfl rfl (Yv.move rfl).yl ?_
  refine SOps.split (fun hs1 => ?_) (fun hs1 => ?_)
  · try replace hs1 := of_decide_eq_true hs1
    refine SOps.st rfl rfl (Yv.move rfl).yl ?_
    refine SOps.one rfl (One.callC (i := 3) (H' := fun _ _ => [_, _, _, _]) rfl callable81 (.cons rfl (.cons rfl (.nil))) rfl (fun w' hw' => one_spec (Cur.lent hc (i := 3) rfl hw') (by omega) (by omega)) (fun _ _ => rfl) (fun x1 at1 sd1 _ ha1 hb1 => ?_))
    refine SOps.st rfl rfl (Yv.pickT rfl rfl).yl ?_
    refine SOps.nil ?_
    refine Run.cond rfl (fun hc1 => ?_) (fun hc1 => ?_)
    · try replace hc1 := of_decide_eq_true hc1
      refine Run.quiet (by intro h; cases h) ?_
      refine QOps.st rfl rfl (Yv.move rfl).yl ?_
      refine QOps.st rfl rfl (Yv.assign rfl).yl ?_
      refine QOps.nil ?_
      refine Run.seq ?_
      refine Run.ops ?_
      refine SOps.one rfl (One.buildSliceG (pv := []) (cs := []) (fun _ => []) rfl el22 .nil rfl rfl (by kernel_rfl) rfl rfl (fun b2 => ?_))
      refine SOps.st rfl rfl (Yv.move rfl).yl ?_
      refine SOps.one rfl (One.append (enc := intC) (l := ([] : List Int)) (l2 := (evenOf p l cl).1) (m' := (([] : List Int) ++ (evenOf p l cl).1).length) (i := 0) (H' := fun A c => [_, _, _, _, _]) rfl el22 zero3 rfl (by decide) rfl rfl rfl (Rd.row (i := 1) rfl) (fun _ => rfl) (by simp; try omega) (by simp; omega) (by simp; omega) (fun _ _ => rfl) (fun A3 c3 => ?_))
      refine SOps.st rfl rfl (Yv.assign rfl).yl ?_
      refine SOps.nil ?_
      refine Run.seq ?_
      refine Run.seq ?_
      refine Run.ops ?_
      refine SOps.st rfl rfl (Yv.move rfl).yl ?_
      refine SOps.st rfl rfl (Yv.not rfl).yl ?_
      refine SOps.st rfl rfl (Yv.move rfl).yl ?_
      refine SOps.split (fun hs2 => ?_) (fun hs2 => ?_)
      · try replace hs2 := of_decide_eq_true hs2
        refine SOps.sk rfl rfl ?_
        refine SOps.sk rfl rfl ?_
        refine SOps.st rfl rfl (Yv.pickT rfl rfl).yl ?_
        refine SOps.nil ?_
        refine Run.cond rfl (fun hc2 => ?_) (fun hc2 => ?_)
        · try replace hc2 := of_decide_eq_true hc2
          refine Run.ops ?_
          refine SOps.st rfl rfl (Yv.move rfl).yl ?_
          refine SOps.st rfl rfl (Yv.move rfl).yl ?_
          refine SOps.one rfl (One.callC (i := 4) (H' := fun _ _ => [_, _, _, _, _]) rfl callable77 (.cons rfl (.cons rfl (.nil))) rfl (fun w' hw' => pick_spec (Cur.lent hc (i := 4) rfl hw') (by omega) (by omega)) (fun _ _ => rfl) (fun x2 at2 sd2 ⟨hxl2, hxh2⟩ ha2 hb2 => ?_))
          refine SOps.one rfl (One.buildSliceG (pv := [(0, _)]) (cs := [_]) (fun l => match l with | [a0_0] => [a0_0] | _ => []) rfl el22 (.cons rfl (.nil)) rfl rfl (by kernel_rfl) rfl rfl (fun b3 => ?_))
          refine SOps.one rfl (One.append (enc := intC) (l := (([] : List Int) ++ (evenOf p l cl).1)) (l2 := [x2]) (m' := ((([] : List Int) ++ (evenOf p l cl).1) ++ [x2]).length) (i := 1) (H' := fun A c => [_, _, _, _, _, _]) rfl el22 zero3 rfl (by decide) rfl rfl rfl (Rd.row (i := 0) rfl) (fun _ => rfl) (by simp; try omega) (by simp; omega) (by simp; omega) (fun _ _ => rfl) (fun A4 c4 => ?_))
          refine SOps.st rfl rfl (Yv.assign rfl).yl ?_
          refine SOps.nil ?_
          refine Run.seq ?_
          refine Run.seq ?_
          refine Run.ops ?_
          refine SOps.st rfl rfl (Yv.move rfl).yl ?_
          refine SOps.st rfl rfl (Yv.lenS el22s rfl).yl ?_
          refine SOps.st rfl rfl (Yv.gtr rfl rfl).yl ?_
          refine SOps.st rfl rfl (Yv.move rfl).yl ?_
          refine SOps.split (fun hs3 => ?_) (fun hs3 => ?_)
          · try replace hs3 := of_decide_eq_true hs3
            refine SOps.st rfl rfl (Yv.move rfl).yl ?_
            refine SOps.one rfl (One.callC (i := 5) (H' := fun _ _ => [_, _, _, _, _, _]) rfl callable81 (.cons rfl (.cons rfl (.nil))) rfl (fun w' hw' => one_spec (Cur.lent hc (i := 5) rfl hw') (by omega) (by omega)) (fun _ _ => rfl) (fun x3 at3 sd3 _ ha3 hb3 => ?_))
            refine SOps.st rfl rfl (Yv.pickT rfl rfl).yl ?_
            refine SOps.nil ?_
            refine Run.cond rfl (fun hc3 => ?_) (fun hc3 => ?_)
            · try replace hc3 := of_decide_eq_true hc3
              refine Run.seq ?_
              refine Run.ops ?_
              refine SOps.st rfl rfl (Yv.move rfl).yl ?_
              refine SOps.st rfl rfl (Yv.move rfl).yl ?_
              refine SOps.st rfl rfl (Yv.indexAddr 0 el22 rfl rfl rfl (Rd.row (i := 1) rfl) (by omega)).yl ?_
              refine SOps.st rfl rfl (Yv.loadE lay3 rfl intC_len (Rd.row (i := 1) rfl) (by first | omega | (simp only [List.length_set]; omega)) rfl).yl ?_
              refine SOps.st rfl rfl (Yv.addW rfl rfl).yl ?_
              refine SOps.st rfl rfl (Yv.indexAddr 0 el22 rfl rfl rfl (Rd.row (i := 1) rfl) (by omega)).yl ?_
              refine SOps.one rfl (One.storeE (i := 1) (k := 0) (f := 0) (H' := [_, _, _, _, _, _]) (e := (IntKind.i64.wrap (nth ((([] : List Int) ++ (evenOf p l cl).1) ++ [x2]) 0 + 1))) lay3 rfl rfl rfl intC_len rfl (by decide) rfl rfl rfl (by simp) (by first | omega | (simp only [List.length_set]; omega)) rfl ?_)
              refine SOps.nil ?_
              refine Run.ops ?_
              refine SOps.st rfl rfl (Yv.move rfl).yl ?_
              refine SOps.st rfl rfl (Yv.move rfl).yl ?_
              refine SOps.st rfl rfl (Yv.indexAddr 1 el22 rfl rfl rfl (Rd.row (i := 1) rfl) (by omega)).yl ?_
              refine SOps.st rfl rfl (Yv.loadE lay3 rfl intC_len (Rd.row (i := 1) rfl) (by first | omega | (simp only [List.length_set]; omega)) rfl).yl ?_
              refine SOps.st rfl rfl (Yv.subW rfl rfl).yl ?_
              refine SOps.st rfl rfl (Yv.indexAddr 1 el22 rfl rfl rfl (Rd.row (i := 1) rfl) (by omega)).yl ?_
              refine SOps.one rfl (One.storeE (i := 1) (k := 1) (f := 0) (H' := [_, _, _, _, _, _]) (e := (IntKind.i64.wrap (nth (((([] : List Int) ++ (evenOf p l cl).1) ++ [x2]).set 0 (IntKind.i64.wrap (nth ((([] : List Int) ++ (evenOf p l cl).1) ++ [x2]) 0 + 1))) 1 - 1))) lay3 rfl rfl rfl intC_len rfl (by decide) rfl rfl rfl (by simp) (by first | omega | (simp only [List.length_set]; omega)) rfl ?_)
              refine SOps.nil ?_
              refine Run.seq ?_
              refine Run.quiet (by intro h; cases h) ?_
              refine QOps.st rfl rfl (Yv.move rfl).yl ?_
              refine QOps.st rfl rfl (Yv.assign rfl).yl ?_
              refine QOps.nil ?_
              refine Run.ret ?_
              refine retQ.of (.inr rfl) rfl (.tmp rfl .nil) (fun w' hw' => ?_)
              exact retCR_of (((((([] : List Int) ++ (evenOf p l cl).1) ++ [x2]).set 0 (IntKind.i64.wrap (nth ((([] : List Int) ++ (evenOf p l cl).1) ++ [x2]) 0 + 1))).set 1 (IntKind.i64.wrap (nth (((([] : List Int) ++ (evenOf p l cl).1) ++ [x2]).set 0 (IntKind.i64.wrap (nth ((([] : List Int) ++ (evenOf p l cl).1) ++ [x2]) 0 + 1))) 1 - 1)))) (by first | rfl | simp) rfl (by first | omega | (simp; done) | (simp; omega)) (by omega) (by omega) hw'.bel (hw'.ent _ (List.mem_of_getElem? (i := 5) rfl)) (hw'.ent _ (List.mem_of_getElem? (i := 1) rfl)) (HOk.newRow hw' (i := 5) (j := 1) rfl rfl rfl)
            · try replace hc3 := of_decide_eq_false hc3
              refine Run.skip ?_
              refine Run.seq ?_
              refine Run.quiet (by intro h; cases h) ?_
              refine QOps.st rfl rfl (Yv.move rfl).yl ?_
              refine QOps.st rfl rfl (Yv.assign rfl).yl ?_
              refine QOps.nil ?_
              refine Run.ret ?_
              refine retQ.of (.inr rfl) rfl (.tmp rfl .nil) (fun w' hw' => ?_)
              exact retCR_of (((([] : List Int) ++ (evenOf p l cl).1) ++ [x2])) (by first | rfl | simp) rfl (by first | omega | (simp; done) | (simp; omega)) (by omega) (by omega) hw'.bel (hw'.ent _ (List.mem_of_getElem? (i := 5) rfl)) (hw'.ent _ (List.mem_of_getElem? (i := 1) rfl)) (HOk.newRow hw' (i := 5) (j := 1) rfl rfl rfl)
          · try replace hs3 := of_decide_eq_false hs3
            refine SOps.sk rfl rfl ?_
            refine SOps.sk rfl rfl ?_
            refine SOps.st rfl rfl (Yv.pickF rfl rfl).yl ?_
            refine SOps.nil ?_
            refine Run.cond rfl (fun hc4 => ?_) (fun hc4 => ?_)
            · exfalso
              cases hc4
            · try replace hc4 := of_decide_eq_false hc4
              refine Run.skip ?_
              refine Run.seq ?_
              refine Run.quiet (by intro h; cases h) ?_
              refine QOps.st rfl rfl (Yv.move rfl).yl ?_
              refine QOps.st rfl rfl (Yv.assign rfl).yl ?_
              refine QOps.nil ?_
              refine Run.ret ?_
              refine retQ.of (.inr rfl) rfl (.tmp rfl .nil) (fun w' hw' => ?_)
              exact retCR_of (((([] : List Int) ++ (evenOf p l cl).1) ++ [x2])) (by first | rfl | simp) rfl (by first | omega | (simp; done) | (simp; omega)) (by omega) (by omega) hw'.bel (hw'.ent _ (List.mem_of_getElem? (i := 5) rfl)) (hw'.ent _ (List.mem_of_getElem? (i := 1) rfl)) (HOk.newRow hw' (i := 5) (j := 1) rfl rfl rfl)
        · exfalso
          cases hc2
      · try replace hs2 := of_decide_eq_false hs2
        refine SOps.st rfl rfl (Yv.move rfl).yl ?_
        refine SOps.one rfl (One.callC (i := 4) (H' := fun _ _ => [_, _, _, _, _]) rfl callable81 (.cons rfl (.cons rfl (.nil))) rfl (fun w' hw' => one_spec (Cur.lent hc (i := 4) rfl hw') (by omega) (by omega)) (fun _ _ => rfl) (fun x4 at4 sd4 _ ha4 hb4 => ?_))
        refine SOps.st rfl rfl (Yv.pickF rfl rfl).yl ?_
        refine SOps.nil ?_
        refine Run.cond rfl (fun hc5 => ?_) (fun hc5 => ?_)
        · try replace hc5 := of_decide_eq_true hc5
          refine Run.ops ?_
          refine SOps.st rfl rfl (Yv.move rfl).yl ?_
          refine SOps.st rfl rfl (Yv.move rfl).yl ?_
          refine SOps.one rfl (One.callC (i := 4) (H' := fun _ _ => [_, _, _, _, _]) rfl callable77 (.cons rfl (.cons rfl (.nil))) rfl (fun w' hw' => pick_spec (Cur.lent hc (i := 4) rfl hw') (by omega) (by omega)) (fun _ _ => rfl) (fun x5 at5 sd5 ⟨hxl5, hxh5⟩ ha5 hb5 => ?_))
          refine SOps.one rfl (One.buildSliceG (pv := [(0, _)]) (cs := [_]) (fun l => match l with | [a0_0] => [a0_0] | _ => []) rfl el22 (.cons rfl (.nil)) rfl rfl (by kernel_rfl) rfl rfl (fun b4 => ?_))
          refine SOps.one rfl (One.append (enc := intC) (l := (([] : List Int) ++ (evenOf p l cl).1)) (l2 := [x5]) (m' := ((([] : List Int) ++ (evenOf p l cl).1) ++ [x5]).length) (i := 1) (H' := fun A c => [_, _, _, _, _, _]) rfl el22 zero3 rfl (by decide) rfl rfl rfl (Rd.row (i := 0) rfl) (fun _ => rfl) (by simp; try omega) (by simp; omega) (by simp; omega) (fun _ _ => rfl) (fun A5 c5 => ?_))
          refine SOps.st rfl rfl (Yv.assign rfl).yl ?_
          refine SOps.nil ?_
          refine Run.seq ?_
          refine Run.seq ?_
          refine Run.ops ?_
          refine SOps.st rfl rfl (Yv.move rfl).yl ?_
          refine SOps.st rfl rfl (Yv.lenS el22s rfl).yl ?_
          refine SOps.st rfl rfl (Yv.gtr rfl rfl).yl ?_
          refine SOps.st rfl rfl (Yv.move rfl).yl ?_
          refine SOps.split (fun hs4 => ?_) (fun hs4 => ?_)
          · try replace hs4 := of_decide_eq_true hs4
            refine SOps.st rfl rfl (Yv.move rfl).yl ?_
            refine SOps.one rfl (One.callC (i := 5) (H' := fun _ _ => [_, _, _, _, _, _]) rfl callable81 (.cons rfl (.cons rfl (.nil))) rfl (fun w' hw' => one_spec (Cur.lent hc (i := 5) rfl hw') (by omega) (by omega)) (fun _ _ => rfl) (fun x6 at6 sd6 _ ha6 hb6 => ?_))
            refine SOps.st rfl rfl (Yv.pickT rfl rfl).yl ?_
            refine SOps.nil ?_
            refine Run.cond rfl (fun hc6 => ?_) (fun hc6 => ?_)
            · try replace hc6 := of_decide_eq_true hc6
              refine Run.seq ?_
              refine Run.ops ?_
              refine SOps.st rfl rfl (Yv.move rfl).yl ?_
              refine SOps.st rfl rfl (Yv.move rfl).yl ?_
              refine SOps.st rfl rfl (Yv.indexAddr 0 el22 rfl rfl rfl (Rd.row (i := 1) rfl) (by omega)).yl ?_
              refine SOps.st rfl rfl (Yv.loadE lay3 rfl intC_len (Rd.row (i := 1) rfl) (by first | omega | (simp only [List.length_set]; omega)) rfl).yl ?_
              refine SOps.st rfl rfl (Yv.addW rfl rfl).yl ?_
              refine SOps.st rfl rfl (Yv.indexAddr 0 el22 rfl rfl rfl (Rd.row (i := 1) rfl) (by omega)).yl ?_
              refine SOps.one rfl (One.storeE (i := 1) (k := 0) (f := 0) (H' := [_, _, _, _, _, _]) (e := (IntKind.i64.wrap (nth ((([] : List Int) ++ (evenOf p l cl).1) ++ [x5]) 0 + 1))) lay3 rfl rfl rfl intC_len rfl (by decide) rfl rfl rfl (by simp) (by first | omega | (simp only [List.length_set]; omega)) rfl ?_)
              refine SOps.nil ?_
              refine Run.ops ?_
              refine SOps.st rfl rfl (Yv.move rfl).yl ?_
              refine SOps.st rfl rfl (Yv.move rfl).yl ?_
              refine SOps.st rfl rfl (Yv.indexAddr 1 el22 rfl rfl rfl (Rd.row (i := 1) rfl) (by omega)).yl ?_
              refine SOps.st rfl rfl (Yv.loadE lay3 rfl intC_len (Rd.row (i := 1) rfl) (by first | omega | (simp only [List.length_set]; omega)) rfl).yl ?_
              refine SOps.st rfl rfl (Yv.subW rfl rfl).yl ?_
              refine SOps.st rfl rfl (Yv.indexAddr 1 el22 rfl rfl rfl (Rd.row (i := 1) rfl) (by omega)).yl ?_
              refine SOps.one rfl (One.storeE (i := 1) (k := 1) (f := 0) (H' := [_, _, _, _, _, _]) (e := (IntKind.i64.wrap (nth (((([] : List Int) ++ (evenOf p l cl).1) ++ [x5]).set 0 (IntKind.i64.wrap (nth ((([] : List Int) ++ (evenOf p l cl).1) ++ [x5]) 0 + 1))) 1 - 1))) lay3 rfl rfl rfl intC_len rfl (by decide) rfl rfl rfl (by simp) (by first | omega | (simp only [List.length_set]; omega)) rfl ?_)
              refine SOps.nil ?_
              refine Run.seq ?_
              refine Run.quiet (by intro h; cases h) ?_
              refine QOps.st rfl rfl (Yv.move rfl).yl ?_
              refine QOps.st rfl rfl (Yv.assign rfl).yl ?_
              refine QOps.nil ?_
              refine Run.ret ?_
              refine retQ.of (.inr rfl) rfl (.tmp rfl .nil) (fun w' hw' => ?_)
              exact retCR_of (((((([] : List Int) ++ (evenOf p l cl).1) ++ [x5]).set 0 (IntKind.i64.wrap (nth ((([] : List Int) ++ (evenOf p l cl).1) ++ [x5]) 0 + 1))).set 1 (IntKind.i64.wrap (nth (((([] : List Int) ++ (evenOf p l cl).1) ++ [x5]).set 0 (IntKind.i64.wrap (nth ((([] : List Int) ++ (evenOf p l cl).1) ++ [x5]) 0 + 1))) 1 - 1)))) (by first | rfl | simp) rfl (by first | omega | (simp; done) | (simp; omega)) (by omega) (by omega) hw'.bel (hw'.ent _ (List.mem_of_getElem? (i := 5) rfl)) (hw'.ent _ (List.mem_of_getElem? (i := 1) rfl)) (HOk.newRow hw' (i := 5) (j := 1) rfl rfl rfl)
            · try replace hc6 := of_decide_eq_false hc6
              refine Run.skip ?_
              refine Run.seq ?_
              refine Run.quiet (by intro h; cases h) ?_
              refine QOps.st rfl rfl (Yv.move rfl).yl ?_
              refine QOps.st rfl rfl (Yv.assign rfl).yl ?_
              refine QOps.nil ?_
              refine Run.ret ?_
              refine retQ.of (.inr rfl) rfl (.tmp rfl .nil) (fun w' hw' => ?_)
              exact retCR_of (((([] : List Int) ++ (evenOf p l cl).1) ++ [x5])) (by first | rfl | simp) rfl (by first | omega | (simp; done) | (simp; omega)) (by omega) (by omega) hw'.bel (hw'.ent _ (List.mem_of_getElem? (i := 5) rfl)) (hw'.ent _ (List.mem_of_getElem? (i := 1) rfl)) (HOk.newRow hw' (i := 5) (j := 1) rfl rfl rfl)
          · try replace hs4 := of_decide_eq_false hs4
            refine SOps.sk rfl rfl ?_
            refine SOps.sk rfl rfl ?_
            refine SOps.st rfl rfl (Yv.pickF rfl rfl).yl ?_
            refine SOps.nil ?_
            refine Run.cond rfl (fun hc7 => ?_) (fun hc7 => ?_)
            · exfalso
              cases hc7
            · try replace hc7 := of_decide_eq_false hc7
              refine Run.skip ?_
              refine Run.seq ?_
              refine Run.quiet (by intro h; cases h) ?_
              refine QOps.st rfl rfl (Yv.move rfl).yl ?_
              refine QOps.st rfl rfl (Yv.assign rfl).yl ?_
              refine QOps.nil ?_
              refine Run.ret ?_
              refine retQ.of (.inr rfl) rfl (.tmp rfl .nil) (fun w' hw' => ?_)
              exact retCR_of (((([] : List Int) ++ (evenOf p l cl).1) ++ [x5])) (by first | rfl | simp) rfl (by first | omega | (simp; done) | (simp; omega)) (by omega) (by omega) hw'.bel (hw'.ent _ (List.mem_of_getElem? (i := 5) rfl)) (hw'.ent _ (List.mem_of_getElem? (i := 1) rfl)) (HOk.newRow hw' (i := 5) (j := 1) rfl rfl rfl)
        · try replace hc5 := of_decide_eq_false hc5
          refine Run.skip ?_
          refine Run.seq ?_
          refine Run.seq ?_
          refine Run.ops ?_
          refine SOps.st rfl rfl (Yv.move rfl).yl ?_
          refine SOps.st rfl rfl (Yv.lenS el22s rfl).yl ?_
          refine SOps.st rfl rfl (Yv.gtr rfl rfl).yl ?_
          refine SOps.st rfl rfl (Yv.move rfl).yl ?_
          refine SOps.split (fun hs5 => ?_) (fun hs5 => ?_)
          · try replace hs5 := of_decide_eq_true hs5
            refine SOps.st rfl rfl (Yv.move rfl).yl ?_
            refine SOps.one rfl (One.callC (i := 4) (H' := fun _ _ => [_, _, _, _, _]) rfl callable81 (.cons rfl (.cons rfl (.nil))) rfl (fun w' hw' => one_spec (Cur.lent hc (i := 4) rfl hw') (by omega) (by omega)) (fun _ _ => rfl) (fun x7 at7 sd7 _ ha7 hb7 => ?_))
            refine SOps.st rfl rfl (Yv.pickT rfl rfl).yl ?_
            refine SOps.nil ?_
            refine Run.cond rfl (fun hc8 => ?_) (fun hc8 => ?_)
            · try replace hc8 := of_decide_eq_true hc8
              refine Run.seq ?_
              refine Run.ops ?_
              refine SOps.st rfl rfl (Yv.move rfl).yl ?_
              refine SOps.st rfl rfl (Yv.move rfl).yl ?_
              refine SOps.st rfl rfl (Yv.indexAddr 0 el22 rfl rfl rfl (Rd.row (i := 0) rfl) (by omega)).yl ?_
              refine SOps.st rfl rfl (Yv.loadE lay3 rfl intC_len (Rd.row (i := 0) rfl) (by first | omega | (simp only [List.length_set]; omega)) rfl).yl ?_
              refine SOps.st rfl rfl (Yv.addW rfl rfl).yl ?_
              refine SOps.st rfl rfl (Yv.indexAddr 0 el22 rfl rfl rfl (Rd.row (i := 0) rfl) (by omega)).yl ?_
              refine SOps.one rfl (One.storeE (i := 0) (k := 0) (f := 0) (H' := [_, _, _, _, _]) (e := (IntKind.i64.wrap (nth (([] : List Int) ++ (evenOf p l cl).1) 0 + 1))) lay3 rfl rfl rfl intC_len rfl (by decide) rfl rfl rfl (by simp) (by first | omega | (simp only [List.length_set]; omega)) rfl ?_)
              refine SOps.nil ?_
              refine Run.ops ?_
              refine SOps.st rfl rfl (Yv.move rfl).yl ?_
              refine SOps.st rfl rfl (Yv.move rfl).yl ?_
              refine SOps.st rfl rfl (Yv.indexAddr 1 el22 rfl rfl rfl (Rd.row (i := 0) rfl) (by omega)).yl ?_
              refine SOps.st rfl rfl (Yv.loadE lay3 rfl intC_len (Rd.row (i := 0) rfl) (by first | omega | (simp only [List.length_set]; omega)) rfl).yl ?_
              refine SOps.st rfl rfl (Yv.subW rfl rfl).yl ?_
              refine SOps.st rfl rfl (Yv.indexAddr 1 el22 rfl rfl rfl (Rd.row (i := 0) rfl) (by omega)).yl ?_
              refine SOps.one rfl (One.storeE (i := 0) (k := 1) (f := 0) (H' := [_, _, _, _, _]) (e := (IntKind.i64.wrap (nth ((([] : List Int) ++ (evenOf p l cl).1).set 0 (IntKind.i64.wrap (nth (([] : List Int) ++ (evenOf p l cl).1) 0 + 1))) 1 - 1))) lay3 rfl rfl rfl intC_len rfl (by decide) rfl rfl rfl (by simp) (by first | omega | (simp only [List.length_set]; omega)) rfl ?_)
              refine SOps.nil ?_
              refine Run.seq ?_
              refine Run.quiet (by intro h; cases h) ?_
              refine QOps.st rfl rfl (Yv.move rfl).yl ?_
              refine QOps.st rfl rfl (Yv.assign rfl).yl ?_
              refine QOps.nil ?_
              refine Run.ret ?_
              refine retQ.of (.inr rfl) rfl (.tmp rfl .nil) (fun w' hw' => ?_)
              exact retCR_of ((((([] : List Int) ++ (evenOf p l cl).1).set 0 (IntKind.i64.wrap (nth (([] : List Int) ++ (evenOf p l cl).1) 0 + 1))).set 1 (IntKind.i64.wrap (nth ((([] : List Int) ++ (evenOf p l cl).1).set 0 (IntKind.i64.wrap (nth (([] : List Int) ++ (evenOf p l cl).1) 0 + 1))) 1 - 1)))) (by first | rfl | simp) rfl (by first | omega | (simp; done) | (simp; omega)) (by omega) (by omega) hw'.bel (hw'.ent _ (List.mem_of_getElem? (i := 4) rfl)) (hw'.ent _ (List.mem_of_getElem? (i := 0) rfl)) (HOk.newRow hw' (i := 4) (j := 0) rfl rfl rfl)
            · try replace hc8 := of_decide_eq_false hc8
              refine Run.skip ?_
              refine Run.seq ?_
              refine Run.quiet (by intro h; cases h) ?_
              refine QOps.st rfl rfl (Yv.move rfl).yl ?_
              refine QOps.st rfl rfl (Yv.assign rfl).yl ?_
              refine QOps.nil ?_
              refine Run.ret ?_
              refine retQ.of (.inr rfl) rfl (.tmp rfl .nil) (fun w' hw' => ?_)
              exact retCR_of ((([] : List Int) ++ (evenOf p l cl).1)) (by first | rfl | simp) rfl (by first | omega | (simp; done) | (simp; omega)) (by omega) (by omega) hw'.bel (hw'.ent _ (List.mem_of_getElem? (i := 4) rfl)) (hw'.ent _ (List.mem_of_getElem? (i := 0) rfl)) (HOk.newRow hw' (i := 4) (j := 0) rfl rfl rfl)
          · try replace hs5 := of_decide_eq_false hs5
            refine SOps.sk rfl rfl ?_
            refine SOps.sk rfl rfl ?_
            refine SOps.st rfl rfl (Yv.pickF rfl rfl).yl ?_
            refine SOps.nil ?_
            refine Run.cond rfl (fun hc9 => ?_) (fun hc9 => ?_)
            · exfalso
              cases hc9
            · try replace hc9 := of_decide_eq_false hc9
              refine Run.skip ?_
              refine Run.seq ?_
              refine Run.quiet (by intro h; cases h) ?_
              refine QOps.st rfl rfl (Yv.move rfl).yl ?_
              refine QOps.st rfl rfl (Yv.assign rfl).yl ?_
              refine QOps.nil ?_
              refine Run.ret ?_
              refine retQ.of (.inr rfl) rfl (.tmp rfl .nil) (fun w' hw' => ?_)
              exact retCR_of ((([] : List Int) ++ (evenOf p l cl).1)) (by first | rfl | simp) rfl (by first | omega | (simp; done) | (simp; omega)) (by omega) (by omega) hw'.bel (hw'.ent _ (List.mem_of_getElem? (i := 4) rfl)) (hw'.ent _ (List.mem_of_getElem? (i := 0) rfl)) (HOk.newRow hw' (i := 4) (j := 0) rfl rfl rfl)
    · try replace hc1 := of_decide_eq_false hc1
      refine Run.skip ?_
      refine Run.seq ?_
      refine Run.ops ?_
      refine SOps.one rfl (One.buildSliceG (pv := []) (cs := []) (fun _ => []) rfl el22 .nil rfl rfl (by kernel_rfl) rfl rfl (fun b5 => ?_))
      refine SOps.st rfl rfl (Yv.move rfl).yl ?_
      refine SOps.one rfl (One.append (enc := intC) (l := ([] : List Int)) (l2 := (greedyOf p l cl).1) (m' := (([] : List Int) ++ (greedyOf p l cl).1).length) (i := 0) (H' := fun A c => [_, _, _, _, _]) rfl el22 zero3 rfl (by decide) rfl rfl rfl (Rd.row (i := 2) rfl) (fun _ => rfl) (by simp; try omega) (by simp; omega) (by simp; omega) (fun _ _ => rfl) (fun A6 c6 => ?_))
      refine SOps.st rfl rfl (Yv.assign rfl).yl ?_
      refine SOps.nil ?_
      refine Run.seq ?_
      refine Run.seq ?_
      refine Run.ops ?_
      refine SOps.st rfl rfl (Yv.move rfl).yl ?_
      refine SOps.st rfl rfl (Yv.not rfl).yl ?_
      refine SOps.st rfl rfl (Yv.move rfl).yl ?_
      refine SOps.split (fun hs6 => ?_) (fun hs6 => ?_)
      · try replace hs6 := of_decide_eq_true hs6
        refine SOps.sk rfl rfl ?_
        refine SOps.sk rfl rfl ?_
        refine SOps.st rfl rfl (Yv.pickT rfl rfl).yl ?_
        refine SOps.nil ?_
        refine Run.cond rfl (fun hc10 => ?_) (fun hc10 => ?_)
        · try replace hc10 := of_decide_eq_true hc10
          refine Run.ops ?_
          refine SOps.st rfl rfl (Yv.move rfl).yl ?_
          refine SOps.st rfl rfl (Yv.move rfl).yl ?_
          refine SOps.one rfl (One.callC (i := 4) (H' := fun _ _ => [_, _, _, _, _]) rfl callable77 (.cons rfl (.cons rfl (.nil))) rfl (fun w' hw' => pick_spec (Cur.lent hc (i := 4) rfl hw') (by omega) (by omega)) (fun _ _ => rfl) (fun x8 at8 sd8 ⟨hxl8, hxh8⟩ ha8 hb8 => ?_))
          refine SOps.one rfl (One.buildSliceG (pv := [(0, _)]) (cs := [_]) (fun l => match l with | [a0_0] => [a0_0] | _ => []) rfl el22 (.cons rfl (.nil)) rfl rfl (by kernel_rfl) rfl rfl (fun b6 => ?_))
          refine SOps.one rfl (One.append (enc := intC) (l := (([] : List Int) ++ (greedyOf p l cl).1)) (l2 := [x8]) (m' := ((([] : List Int) ++ (greedyOf p l cl).1) ++ [x8]).length) (i := 1) (H' := fun A c => [_, _, _, _, _, _]) rfl el22 zero3 rfl (by decide) rfl rfl rfl (Rd.row (i := 0) rfl) (fun _ => rfl) (by simp; try omega) (by simp; omega) (by simp; omega) (fun _ _ => rfl) (fun A7 c7 => ?_))
          refine SOps.st rfl rfl (Yv.assign rfl).yl ?_
          refine SOps.nil ?_
          refine Run.seq ?_
          refine Run.seq ?_
          refine Run.ops ?_
          refine SOps.st rfl rfl (Yv.move rfl).yl ?_
          refine SOps.st rfl rfl (Yv.lenS el22s rfl).yl ?_
          refine SOps.st rfl rfl (Yv.gtr rfl rfl).yl ?_
          refine SOps.st rfl rfl (Yv.move rfl).yl ?_
          refine SOps.split (fun hs7 => ?_) (fun hs7 => ?_)
          · try replace hs7 := of_decide_eq_true hs7
            refine SOps.st rfl rfl (Yv.move rfl).yl ?_
            refine SOps.one rfl (One.callC (i := 5) (H' := fun _ _ => [_, _, _, _, _, _]) rfl callable81 (.cons rfl (.cons rfl (.nil))) rfl (fun w' hw' => one_spec (Cur.lent hc (i := 5) rfl hw') (by omega) (by omega)) (fun _ _ => rfl) (fun x9 at9 sd9 _ ha9 hb9 => ?_))
            refine SOps.st rfl rfl (Yv.pickT rfl rfl).yl ?_
            refine SOps.nil ?_
            refine Run.cond rfl (fun hc11 => ?_) (fun hc11 => ?_)
            · try replace hc11 := of_decide_eq_true hc11
              refine Run.seq ?_
              refine Run.ops ?_
              refine SOps.st rfl rfl (Yv.move rfl).yl ?_
              refine SOps.st rfl rfl (Yv.move rfl).yl ?_
              refine SOps.st rfl rfl (Yv.indexAddr 0 el22 rfl rfl rfl (Rd.row (i := 1) rfl) (by omega)).yl ?_
              refine SOps.st rfl rfl (Yv.loadE lay3 rfl intC_len (Rd.row (i := 1) rfl) (by first | omega | (simp only [List.length_set]; omega)) rfl).yl ?_
              refine SOps.st rfl rfl (Yv.addW rfl rfl).yl ?_
              refine SOps.st rfl rfl (Yv.indexAddr 0 el22 rfl rfl rfl (Rd.row (i := 1) rfl) (by omega)).yl ?_
              refine SOps.one rfl (One.storeE (i := 1) (k := 0) (f := 0) (H' := [_, _, _, _, _, _]) (e := (IntKind.i64.wrap (nth ((([] : List Int) ++ (greedyOf p l cl).1) ++ [x8]) 0 + 1))) lay3 rfl rfl rfl intC_len rfl (by decide) rfl rfl rfl (by simp) (by first | omega | (simp only [List.length_set]; omega)) rfl ?_)
              refine SOps.nil ?_
              refine Run.ops ?_
              refine SOps.st rfl rfl (Yv.move rfl).yl ?_
              refine SOps.st rfl rfl (Yv.move rfl).yl ?_
              refine SOps.st rfl rfl (Yv.indexAddr 1 el22 rfl rfl rfl (Rd.row (i := 1) rfl) (by omega)).yl ?_
              refine SOps.st rfl rfl (Yv.loadE lay3 rfl intC_len (Rd.row (i := 1) rfl) (by first | omega | (simp only [List.length_set]; omega)) rfl).yl ?_
              refine SOps.st rfl rfl (Yv.subW rfl rfl).yl ?_
              refine SOps.st rfl rfl (Yv.indexAddr 1 el22 rfl rfl rfl (Rd.row (i := 1) rfl) (by omega)).yl ?_
              refine SOps.one rfl (One.storeE (i := 1) (k := 1) (f := 0) (H' := [_, _, _, _, _, _]) (e := (IntKind.i64.wrap (nth (((([] : List Int) ++ (greedyOf p l cl).1) ++ [x8]).set 0 (IntKind.i64.wrap (nth ((([] : List Int) ++ (greedyOf p l cl).1) ++ [x8]) 0 + 1))) 1 - 1))) lay3 rfl rfl rfl intC_len rfl (by decide) rfl rfl rfl (by simp) (by first | omega | (simp only [List.length_set]; omega)) rfl ?_)
              refine SOps.nil ?_
              refine Run.seq ?_
              refine Run.quiet (by intro h; cases h) ?_
              refine QOps.st rfl rfl (Yv.move rfl).yl ?_
              refine QOps.st rfl rfl (Yv.assign rfl).yl ?_
              refine QOps.nil ?_
              refine Run.ret ?_
              refine retQ.of (.inr rfl) rfl (.tmp rfl .nil) (fun w' hw' => ?_)
              exact retCR_of (((((([] : List Int) ++ (greedyOf p l cl).1) ++ [x8]).set 0 (IntKind.i64.wrap (nth ((([] : List Int) ++ (greedyOf p l cl).1) ++ [x8]) 0 + 1))).set 1 (IntKind.i64.wrap (nth (((([] : List Int) ++ (greedyOf p l cl).1) ++ [x8]).set 0 (IntKind.i64.wrap (nth ((([] : List Int) ++ (greedyOf p l cl).1) ++ [x8]) 0 + 1))) 1 - 1)))) (by first | rfl | simp) rfl (by first | omega | (simp; done) | (simp; omega)) (by omega) (by omega) hw'.bel (hw'.ent _ (List.mem_of_getElem? (i := 5) rfl)) (hw'.ent _ (List.mem_of_getElem? (i := 1) rfl)) (HOk.newRow hw' (i := 5) (j := 1) rfl rfl rfl)
            · try replace hc11 := of_decide_eq_false hc11
              refine Run.skip ?_
              refine Run.seq ?_
              refine Run.quiet (by intro h; cases h) ?_
              refine QOps.st rfl rfl (Yv.move rfl).yl ?_
              refine QOps.st rfl rfl (Yv.assign rfl).yl ?_
              refine QOps.nil ?_
              refine Run.ret ?_
              refine retQ.of (.inr rfl) rfl (.tmp rfl .nil) (fun w' hw' => ?_)
              exact retCR_of (((([] : List Int) ++ (greedyOf p l cl).1) ++ [x8])) (by first | rfl | simp) rfl (by first | omega | (simp; done) | (simp; omega)) (by omega) (by omega) hw'.bel (hw'.ent _ (List.mem_of_getElem? (i := 5) rfl)) (hw'.ent _ (List.mem_of_getElem? (i := 1) rfl)) (HOk.newRow hw' (i := 5) (j := 1) rfl rfl rfl)
          · try replace hs7 := of_decide_eq_false hs7
            refine SOps.sk rfl rfl ?_
            refine SOps.sk rfl rfl ?_
            refine SOps.st rfl rfl (Yv.pickF rfl rfl).yl ?_
            refine SOps.nil ?_
            refine Run.cond rfl (fun hc12 => ?_) (fun hc12 => ?_)
            · exfalso
              cases hc12
            · try replace hc12 := of_decide_eq_false hc12
              refine Run.skip ?_
              refine Run.seq ?_
              refine Run.quiet (by intro h; cases h) ?_
              refine QOps.st rfl rfl (Yv.move rfl).yl ?_
              refine QOps.st rfl rfl (Yv.assign rfl).yl ?_
              refine QOps.nil ?_
              refine Run.ret ?_
              refine retQ.of (.inr rfl) rfl (.tmp rfl .nil) (fun w' hw' => ?_)
              exact retCR_of (((([] : List Int) ++ (greedyOf p l cl).1) ++ [x8])) (by first | rfl | simp) rfl (by first | omega | (simp; done) | (simp; omega)) (by omega) (by omega) hw'.bel (hw'.ent _ (List.mem_of_getElem? (i := 5) rfl)) (hw'.ent _ (List.mem_of_getElem? (i := 1) rfl)) (HOk.newRow hw' (i := 5) (j := 1) rfl rfl rfl)
        · exfalso
          cases hc10
      · try replace hs6 := of_decide_eq_false hs6
        refine SOps.st rfl rfl (Yv.move rfl).yl ?_
        refine SOps.one rfl (One.callC (i := 4) (H' := fun _ _ => [_, _, _, _, _]) rfl callable81 (.cons rfl (.cons rfl (.nil))) rfl (fun w' hw' => one_spec (Cur.lent hc (i := 4) rfl hw') (by omega) (by omega)) (fun _ _ => rfl) (fun x10 at10 sd10 _ ha10 hb10 => ?_))
        refine SOps.st rfl rfl (Yv.pickF rfl rfl).yl ?_
        refine SOps.nil ?_
        refine Run.cond rfl (fun hc13 => ?_) (fun hc13 => ?_)
        · try replace hc13 := of_decide_eq_true hc13
          refine Run.ops ?_
          refine SOps.st rfl rfl (Yv.move rfl).yl ?_
          refine SOps.st rfl rfl (Yv.move rfl).yl ?_
          refine SOps.one rfl (One.callC (i := 4) (H' := fun _ _ => [_, _, _, _, _]) rfl callable77 (.cons rfl (.cons rfl (.nil))) rfl (fun w' hw' => pick_spec (Cur.lent hc (i := 4) rfl hw') (by omega) (by omega)) (fun _ _ => rfl) (fun x11 at11 sd11 ⟨hxl11, hxh11⟩ ha11 hb11 => ?_))
          refine SOps.one rfl (One.buildSliceG (pv := [(0, _)]) (cs := [_]) (fun l => match l with | [a0_0] => [a0_0] | _ => []) rfl el22 (.cons rfl (.nil)) rfl rfl (by kernel_rfl) rfl rfl (fun b7 => ?_))
          refine SOps.one rfl (One.append (enc := intC) (l := (([] : List Int) ++ (greedyOf p l cl).1)) (l2 := [x11]) (m' := ((([] : List Int) ++ (greedyOf p l cl).1) ++ [x11]).length) (i := 1) (H' := fun A c => [_, _, _, _, _, _]) rfl el22 zero3 rfl (by decide) rfl rfl rfl (Rd.row (i := 0) rfl) (fun _ => rfl) (by simp; try omega) (by simp; omega) (by simp; omega) (fun _ _ => rfl) (fun A8 c8 => ?_))
          refine SOps.st rfl rfl (Yv.assign rfl).yl ?_
          refine SOps.nil ?_
          refine Run.seq ?_
          refine Run.seq ?_
          refine Run.ops ?_
          refine SOps.st rfl rfl (Yv.move rfl).yl ?_
          refine SOps.st rfl rfl (Yv.lenS el22s rfl).yl ?_
          refine SOps.st rfl rfl (Yv.gtr rfl rfl).yl ?_
          refine SOps.st rfl rfl (Yv.move rfl).yl ?_
          refine SOps.split (fun hs8 => ?_) (fun hs8 => ?_)
          · try replace hs8 := of_decide_eq_true hs8
            refine SOps.st rfl rfl (Yv.move rfl).yl ?_
            refine SOps.one rfl (One.callC (i := 5) (H' := fun _ _ => [_, _, _, _, _, _]) rfl callable81 (.cons rfl (.cons rfl (.nil))) rfl (fun w' hw' => one_spec (Cur.lent hc (i := 5) rfl hw') (by omega) (by omega)) (fun _ _ => rfl) (fun x12 at12 sd12 _ ha12 hb12 => ?_))
            refine SOps.st rfl rfl (Yv.pickT rfl rfl).yl ?_
            refine SOps.nil ?_
            refine Run.cond rfl (fun hc14 => ?_) (fun hc14 => ?_)
            · try replace hc14 := of_decide_eq_true hc14
              refine Run.seq ?_
              refine Run.ops ?_
              refine SOps.st rfl rfl (Yv.move rfl).yl ?_
              refine SOps.st rfl rfl (Yv.move rfl).yl ?_
              refine SOps.st rfl rfl (Yv.indexAddr 0 el22 rfl rfl rfl (Rd.row (i := 1) rfl) (by omega)).yl ?_
              refine SOps.st rfl rfl (Yv.loadE lay3 rfl intC_len (Rd.row (i := 1) rfl) (by first | omega | (simp only [List.length_set]; omega)) rfl).yl ?_
              refine SOps.st rfl rfl (Yv.addW rfl rfl).yl ?_
              refine SOps.st rfl rfl (Yv.indexAddr 0 el22 rfl rfl rfl (Rd.row (i := 1) rfl) (by omega)).yl ?_
              refine SOps.one rfl (One.storeE (i := 1) (k := 0) (f := 0) (H' := [_, _, _, _, _, _]) (e := (IntKind.i64.wrap (nth ((([] : List Int) ++ (greedyOf p l cl).1) ++ [x11]) 0 + 1))) lay3 rfl rfl rfl intC_len rfl (by decide) rfl rfl rfl (by simp) (by first | omega | (simp only [List.length_set]; omega)) rfl ?_)
              refine SOps.nil ?_
              refine Run.ops ?_
              refine SOps.st rfl rfl (Yv.move rfl).yl ?_
              refine SOps.st rfl rfl (Yv.move rfl).yl ?_
              refine SOps.st rfl rfl (Yv.indexAddr 1 el22 rfl rfl rfl (Rd.row (i := 1) rfl) (by omega)).yl ?_
              refine SOps.st rfl rfl (Yv.loadE lay3 rfl intC_len (Rd.row (i := 1) rfl) (by first | omega | (simp only [List.length_set]; omega)) rfl).yl ?_
              refine SOps.st rfl rfl (Yv.subW rfl rfl).yl ?_
              refine SOps.st rfl rfl (Yv.indexAddr 1 el22 rfl rfl rfl (Rd.row (i := 1) rfl) (by omega)).yl ?_
              refine SOps.one rfl (One.storeE (i := 1) (k := 1) (f := 0) (H' := [_, _, _, _, _, _]) (e := (IntKind.i64.wrap (nth (((([] : List Int) ++ (greedyOf p l cl).1) ++ [x11]).set 0 (IntKind.i64.wrap (nth ((([] : List Int) ++ (greedyOf p l cl).1) ++ [x11]) 0 + 1))) 1 - 1))) lay3 rfl rfl rfl intC_len rfl (by decide) rfl rfl rfl (by simp) (by first | omega | (simp only [List.length_set]; omega)) rfl ?_)
              refine SOps.nil ?_
              refine Run.seq ?_
              refine Run.quiet (by intro h; cases h) ?_
              refine QOps.st rfl rfl (Yv.move rfl).yl ?_
              refine QOps.st rfl rfl (Yv.assign rfl).yl ?_
              refine QOps.nil ?_
              refine Run.ret ?_
              refine retQ.of (.inr rfl) rfl (.tmp rfl .nil) (fun w' hw' => ?_)
              exact retCR_of (((((([] : List Int) ++ (greedyOf p l cl).1) ++ [x11]).set 0 (IntKind.i64.wrap (nth ((([] : List Int) ++ (greedyOf p l cl).1) ++ [x11]) 0 + 1))).set 1 (IntKind.i64.wrap (nth (((([] : List Int) ++ (greedyOf p l cl).1) ++ [x11]).set 0 (IntKind.i64.wrap (nth ((([] : List Int) ++ (greedyOf p l cl).1) ++ [x11]) 0 + 1))) 1 - 1)))) (by first | rfl | simp) rfl (by first | omega | (simp; done) | (simp; omega)) (by omega) (by omega) hw'.bel (hw'.ent _ (List.mem_of_getElem? (i := 5) rfl)) (hw'.ent _ (List.mem_of_getElem? (i := 1) rfl)) (HOk.newRow hw' (i := 5) (j := 1) rfl rfl rfl)
            · try replace hc14 := of_decide_eq_false hc14
              refine Run.skip ?_
              refine Run.seq ?_
              refine Run.quiet (by intro h; cases h) ?_
              refine QOps.st rfl rfl (Yv.move rfl).yl ?_
              refine QOps.st rfl rfl (Yv.assign rfl).yl ?_
              refine QOps.nil ?_
              refine Run.ret ?_
              refine retQ.of (.inr rfl) rfl (.tmp rfl .nil) (fun w' hw' => ?_)
              exact retCR_of (((([] : List Int) ++ (greedyOf p l cl).1) ++ [x11])) (by first | rfl | simp) rfl (by first | omega | (simp; done) | (simp; omega)) (by omega) (by omega) hw'.bel (hw'.ent _ (List.mem_of_getElem? (i := 5) rfl)) (hw'.ent _ (List.mem_of_getElem? (i := 1) rfl)) (HOk.newRow hw' (i := 5) (j := 1) rfl rfl rfl)
          · try replace hs8 := of_decide_eq_false hs8
            refine SOps.sk rfl rfl ?_
            refine SOps.sk rfl rfl ?_
            refine SOps.st rfl rfl (Yv.pickF rfl rfl).yl ?_
            refine SOps.nil ?_
            refine Run.cond rfl (fun hc15 => ?_) (fun hc15 => ?_)
            · exfalso
              cases hc15
            · try replace hc15 := of_decide_eq_false hc15
              refine Run.skip ?_
              refine Run.seq ?_
              refine Run.quiet (by intro h; cases h) ?_
              refine QOps.st rfl rfl (Yv.move rfl).yl ?_
              refine QOps.st rfl rfl (Yv.assign rfl).yl ?_
              refine QOps.nil ?_
              refine Run.ret ?_
              refine retQ.of (.inr rfl) rfl (.tmp rfl .nil) (fun w' hw' => ?_)
              exact retCR_of (((([] : List Int) ++ (greedyOf p l cl).1) ++ [x11])) (by first | rfl | simp) rfl (by first | omega | (simp; done) | (simp; omega)) (by omega) (by omega) hw'.bel (hw'.ent _ (List.mem_of_getElem? (i := 5) rfl)) (hw'.ent _ (List.mem_of_getElem? (i := 1) rfl)) (HOk.newRow hw' (i := 5) (j := 1) rfl rfl rfl)
        · try replace hc13 := of_decide_eq_false hc13
          refine Run.skip ?_
          refine Run.seq ?_
          refine Run.seq ?_
          refine Run.ops ?_
          refine SOps.st rfl rfl (Yv.move rfl).yl ?_
          refine SOps.st rfl rfl (Yv.lenS el22s rfl).yl ?_
          refine SOps.st rfl rfl (Yv.gtr rfl rfl).yl ?_
          refine SOps.st rfl rfl (Yv.move rfl).yl ?_
          refine SOps.split (fun hs9 => ?_) (fun hs9 => ?_)
          · try replace hs9 := of_decide_eq_true hs9
            refine SOps.st rfl rfl (Yv.move rfl).yl ?_
            refine SOps.one rfl (One.callC (i := 4) (H' := fun _ _ => [_, _, _, _, _]) rfl callable81 (.cons rfl (.cons rfl (.nil))) rfl (fun w' hw' => one_spec (Cur.lent hc (i := 4) rfl hw') (by omega) (by omega)) (fun _ _ => rfl) (fun x13 at13 sd13 _ ha13 hb13 => ?_))
            refine SOps.st rfl rfl (Yv.pickT rfl rfl).yl ?_
            refine SOps.nil ?_
            refine Run.cond rfl (fun hc16 => ?_) (fun hc16 => ?_)
            · try replace hc16 := of_decide_eq_true hc16
              refine Run.seq ?_
              refine Run.ops ?_
              refine SOps.st rfl rfl (Yv.move rfl).yl ?_
              refine SOps.st rfl rfl (Yv.move rfl).yl ?_
              refine SOps.st rfl rfl (Yv.indexAddr 0 el22 rfl rfl rfl (Rd.row (i := 0) rfl) (by omega)).yl ?_
              refine SOps.st rfl rfl (Yv.loadE lay3 rfl intC_len (Rd.row (i := 0) rfl) (by first | omega | (simp only [List.length_set]; omega)) rfl).yl ?_
              refine SOps.st rfl rfl (Yv.addW rfl rfl).yl ?_
              refine SOps.st rfl rfl (Yv.indexAddr 0 el22 rfl rfl rfl (Rd.row (i := 0) rfl) (by omega)).yl ?_
              refine SOps.one rfl (One.storeE (i := 0) (k := 0) (f := 0) (H' := [_, _, _, _, _]) (e := (IntKind.i64.wrap (nth (([] : List Int) ++ (greedyOf p l cl).1) 0 + 1))) lay3 rfl rfl rfl intC_len rfl (by decide) rfl rfl rfl (by simp) (by first | omega | (simp only [List.length_set]; omega)) rfl ?_)
              refine SOps.nil ?_
              refine Run.ops ?_
              refine SOps.st rfl rfl (Yv.move rfl).yl ?_
              refine SOps.st rfl rfl (Yv.move rfl).yl ?_
              refine SOps.st rfl rfl (Yv.indexAddr 1 el22 rfl rfl rfl (Rd.row (i := 0) rfl) (by omega)).yl ?_
              refine SOps.st rfl rfl (Yv.loadE lay3 rfl intC_len (Rd.row (i := 0) rfl) (by first | omega | (simp only [List.length_set]; omega)) rfl).yl ?_
              refine SOps.st rfl rfl (Yv.subW rfl rfl).yl ?_
              refine SOps.st rfl rfl (Yv.indexAddr 1 el22 rfl rfl rfl (Rd.row (i := 0) rfl) (by omega)).yl ?_
              refine SOps.one rfl (One.storeE (i := 0) (k := 1) (f := 0) (H' := [_, _, _, _, _]) (e := (IntKind.i64.wrap (nth ((([] : List Int) ++ (greedyOf p l cl).1).set 0 (IntKind.i64.wrap (nth (([] : List Int) ++ (greedyOf p l cl).1) 0 + 1))) 1 - 1))) lay3 rfl rfl rfl intC_len rfl (by decide) rfl rfl rfl (by simp) (by first | omega | (simp only [List.length_set]; omega)) rfl ?_)
              refine SOps.nil ?_
              refine Run.seq ?_
              refine Run.quiet (by intro h; cases h) ?_
              refine QOps.st rfl rfl (Yv.move rfl).yl ?_
              refine QOps.st rfl rfl (Yv.assign rfl).yl ?_
              refine QOps.nil ?_
              refine Run.ret ?_
              refine retQ.of (.inr rfl) rfl (.tmp rfl .nil) (fun w' hw' => ?_)
              exact retCR_of ((((([] : List Int) ++ (greedyOf p l cl).1).set 0 (IntKind.i64.wrap (nth (([] : List Int) ++ (greedyOf p l cl).1) 0 + 1))).set 1 (IntKind.i64.wrap (nth ((([] : List Int) ++ (greedyOf p l cl).1).set 0 (IntKind.i64.wrap (nth (([] : List Int) ++ (greedyOf p l cl).1) 0 + 1))) 1 - 1)))) (by first | rfl | simp) rfl (by first | omega | (simp; done) | (simp; omega)) (by omega) (by omega) hw'.bel (hw'.ent _ (List.mem_of_getElem? (i := 4) rfl)) (hw'.ent _ (List.mem_of_getElem? (i := 0) rfl)) (HOk.newRow hw' (i := 4) (j := 0) rfl rfl rfl)
            · try replace hc16 := of_decide_eq_false hc16
              refine Run.skip ?_
              refine Run.seq ?_
              refine Run.quiet (by intro h; cases h) ?_
              refine QOps.st rfl rfl (Yv.move rfl).yl ?_
              refine QOps.st rfl rfl (Yv.assign rfl).yl ?_
              refine QOps.nil ?_
              refine Run.ret ?_
              refine retQ.of (.inr rfl) rfl (.tmp rfl .nil) (fun w' hw' => ?_)
              exact retCR_of ((([] : List Int) ++ (greedyOf p l cl).1)) (by first | rfl | simp) rfl (by first | omega | (simp; done) | (simp; omega)) (by omega) (by omega) hw'.bel (hw'.ent _ (List.mem_of_getElem? (i := 4) rfl)) (hw'.ent _ (List.mem_of_getElem? (i := 0) rfl)) (HOk.newRow hw' (i := 4) (j := 0) rfl rfl rfl)
          · try replace hs9 := of_decide_eq_false hs9
            refine SOps.sk rfl rfl ?_
            refine SOps.sk rfl rfl ?_
            refine SOps.st rfl rfl (Yv.pickF rfl rfl).yl ?_
            refine SOps.nil ?_
            refine Run.cond rfl (fun hc17 => ?_) (fun hc17 => ?_)
            · exfalso
              cases hc17
            · try replace hc17 := of_decide_eq_false hc17
              refine Run.skip ?_
              refine Run.seq ?_
              refine Run.quiet (by intro h; cases h) ?_
              refine QOps.st rfl rfl (Yv.move rfl).yl ?_
              refine QOps.st rfl rfl (Yv.assign rfl).yl ?_
              refine QOps.nil ?_
              refine Run.ret ?_
              refine retQ.of (.inr rfl) rfl (.tmp rfl .nil) (fun w' hw' => ?_)
              exact retCR_of ((([] : List Int) ++ (greedyOf p l cl).1)) (by first | rfl | simp) rfl (by first | omega | (simp; done) | (simp; omega)) (by omega) (by omega) hw'.bel (hw'.ent _ (List.mem_of_getElem? (i := 4) rfl)) (hw'.ent _ (List.mem_of_getElem? (i := 0) rfl)) (HOk.newRow hw' (i := 4) (j := 0) rfl rfl rfl)
  · try replace hs1 := of_decide_eq_false hs1
    refine SOps.sk rfl rfl ?_
    refine SOps.sk rfl rfl ?_
    refine SOps.st rfl rfl (Yv.pickF rfl rfl).yl ?_
    refine SOps.nil ?_
    refine Run.cond rfl (fun hc18 => ?_) (fun hc18 => ?_)
    · exfalso
      cases hc18
    · try replace hc18 := of_decide_eq_false hc18
      refine Run.skip ?_
      refine Run.seq ?_
      refine Run.ops ?_
      refine SOps.one rfl (One.buildSliceG (pv := []) (cs := []) (fun _ => []) rfl el22 .nil rfl rfl (by kernel_rfl) rfl rfl (fun b8 => ?_))
      refine SOps.st rfl rfl (Yv.move rfl).yl ?_
      refine SOps.one rfl (One.append (enc := intC) (l := ([] : List Int)) (l2 := (greedyOf p l cl).1) (m' := (([] : List Int) ++ (greedyOf p l cl).1).length) (i := 0) (H' := fun A c => [_, _, _, _, _]) rfl el22 zero3 rfl (by decide) rfl rfl rfl (Rd.row (i := 2) rfl) (fun _ => rfl) (by simp; try omega) (by simp; omega) (by simp; omega) (fun _ _ => rfl) (fun A9 c9 => ?_))
      refine SOps.st rfl rfl (Yv.assign rfl).yl ?_
      refine SOps.nil ?_
      refine Run.seq ?_
      refine Run.seq ?_
      refine Run.ops ?_
      refine SOps.st rfl rfl (Yv.move rfl).yl ?_
      refine SOps.st rfl rfl (Yv.not rfl).yl ?_
      refine SOps.st rfl rfl (Yv.move rfl).yl ?_
      refine SOps.split (fun hs10 => ?_) (fun hs10 => ?_)
      · try replace hs10 := of_decide_eq_true hs10
        refine SOps.sk rfl rfl ?_
        refine SOps.sk rfl rfl ?_
        refine SOps.st rfl rfl (Yv.pickT rfl rfl).yl ?_
        refine SOps.nil ?_
        refine Run.cond rfl (fun hc19 => ?_) (fun hc19 => ?_)
        · try replace hc19 := of_decide_eq_true hc19
          refine Run.ops ?_
          refine SOps.st rfl rfl (Yv.move rfl).yl ?_
          refine SOps.st rfl rfl (Yv.move rfl).yl ?_
          refine SOps.one rfl (One.callC (i := 4) (H' := fun _ _ => [_, _, _, _, _]) rfl callable77 (.cons rfl (.cons rfl (.nil))) rfl (fun w' hw' => pick_spec (Cur.lent hc (i := 4) rfl hw') (by omega) (by omega)) (fun _ _ => rfl) (fun x14 at14 sd14 ⟨hxl14, hxh14⟩ ha14 hb14 => ?_))
          refine SOps.one rfl (One.buildSliceG (pv := [(0, _)]) (cs := [_]) (fun l => match l with | [a0_0] => [a0_0] | _ => []) rfl el22 (.cons rfl (.nil)) rfl rfl (by kernel_rfl) rfl rfl (fun b9 => ?_))
          refine SOps.one rfl (One.append (enc := intC) (l := (([] : List Int) ++ (greedyOf p l cl).1)) (l2 := [x14]) (m' := ((([] : List Int) ++ (greedyOf p l cl).1) ++ [x14]).length) (i := 1) (H' := fun A c => [_, _, _, _, _, _]) rfl el22 zero3 rfl (by decide) rfl rfl rfl (Rd.row (i := 0) rfl) (fun _ => rfl) (by simp; try omega) (by simp; omega) (by simp; omega) (fun _ _ => rfl) (fun A10 c10 => ?_))
          refine SOps.st rfl rfl (Yv.assign rfl).yl ?_
          refine SOps.nil ?_
          refine Run.seq ?_
          refine Run.seq ?_
          refine Run.ops ?_
          refine SOps.st rfl rfl (Yv.move rfl).yl ?_
          refine SOps.st rfl rfl (Yv.lenS el22s rfl).yl ?_
          refine SOps.st rfl rfl (Yv.gtr rfl rfl).yl ?_
          refine SOps.st rfl rfl (Yv.move rfl).yl ?_
          refine SOps.split (fun hs11 => ?_) (fun hs11 => ?_)
          · try replace hs11 := of_decide_eq_true hs11
            refine SOps.st rfl rfl (Yv.move rfl).yl ?_
            refine SOps.one rfl (One.callC (i := 5) (H' := fun _ _ => [_, _, _, _, _, _]) rfl callable81 (.cons rfl (.cons rfl (.nil))) rfl (fun w' hw' => one_spec (Cur.lent hc (i := 5) rfl hw') (by omega) (by omega)) (fun _ _ => rfl) (fun x15 at15 sd15 _ ha15 hb15 => ?_))
            refine SOps.st rfl rfl (Yv.pickT rfl rfl).yl ?_
            refine SOps.nil ?_
            refine Run.cond rfl (fun hc20 => ?_) (fun hc20 => ?_)
            · try replace hc20 := of_decide_eq_true hc20
              refine Run.seq ?_
              refine Run.ops ?_
              refine SOps.st rfl rfl (Yv.move rfl).yl ?_
              refine SOps.st rfl rfl (Yv.move rfl).yl ?_
              refine SOps.st rfl rfl (Yv.indexAddr 0 el22 rfl rfl rfl (Rd.row (i := 1) rfl) (by omega)).yl ?_
              refine SOps.st rfl rfl (Yv.loadE lay3 rfl intC_len (Rd.row (i := 1) rfl) (by first | omega | (simp only [List.length_set]; omega)) rfl).yl ?_
              refine SOps.st rfl rfl (Yv.addW rfl rfl).yl ?_
              refine SOps.st rfl rfl (Yv.indexAddr 0 el22 rfl rfl rfl (Rd.row (i := 1) rfl) (by omega)).yl ?_
              refine SOps.one rfl (One.storeE (i := 1) (k := 0) (f := 0) (H' := [_, _, _, _, _, _]) (e := (IntKind.i64.wrap (nth ((([] : List Int) ++ (greedyOf p l cl).1) ++ [x14]) 0 + 1))) lay3 rfl rfl rfl intC_len rfl (by decide) rfl rfl rfl (by simp) (by first | omega | (simp only [List.length_set]; omega)) rfl ?_)
              refine SOps.nil ?_
              refine Run.ops ?_
              refine SOps.st rfl rfl (Yv.move rfl).yl ?_
              refine SOps.st rfl rfl (Yv.move rfl).yl ?_
              refine SOps.st rfl rfl (Yv.indexAddr 1 el22 rfl rfl rfl (Rd.row (i := 1) rfl) (by omega)).yl ?_
              refine SOps.st rfl rfl (Yv.loadE lay3 rfl intC_len (Rd.row (i := 1) rfl) (by first | omega | (simp only [List.length_set]; omega)) rfl).yl ?_
              refine SOps.st rfl rfl (Yv.subW rfl rfl).yl ?_
              refine SOps.st rfl rfl (Yv.indexAddr 1 el22 rfl rfl rfl (Rd.row (i := 1) rfl) (by omega)).yl ?_
              refine SOps.one rfl (One.storeE (i := 1) (k := 1) (f := 0) (H' := [_, _, _, _, _, _]) (e := (IntKind.i64.wrap (nth (((([] : List Int) ++ (greedyOf p l cl).1) ++ [x14]).set 0 (IntKind.i64.wrap (nth ((([] : List Int) ++ (greedyOf p l cl).1) ++ [x14]) 0 + 1))) 1 - 1))) lay3 rfl rfl rfl intC_len rfl (by decide) rfl rfl rfl (by simp) (by first | omega | (simp only [List.length_set]; omega)) rfl ?_)
              refine SOps.nil ?_
              refine Run.seq ?_
              refine Run.quiet (by intro h; cases h) ?_
              refine QOps.st rfl rfl (Yv.move rfl).yl ?_
              refine QOps.st rfl rfl (Yv.assign rfl).yl ?_
              refine QOps.nil ?_
              refine Run.ret ?_
              refine retQ.of (.inr rfl) rfl (.tmp rfl .nil) (fun w' hw' => ?_)
              exact retCR_of (((((([] : List Int) ++ (greedyOf p l cl).1) ++ [x14]).set 0 (IntKind.i64.wrap (nth ((([] : List Int) ++ (greedyOf p l cl).1) ++ [x14]) 0 + 1))).set 1 (IntKind.i64.wrap (nth (((([] : List Int) ++ (greedyOf p l cl).1) ++ [x14]).set 0 (IntKind.i64.wrap (nth ((([] : List Int) ++ (greedyOf p l cl).1) ++ [x14]) 0 + 1))) 1 - 1)))) (by first | rfl | simp) rfl (by first | omega | (simp; done) | (simp; omega)) (by omega) (by omega) hw'.bel (hw'.ent _ (List.mem_of_getElem? (i := 5) rfl)) (hw'.ent _ (List.mem_of_getElem? (i := 1) rfl)) (HOk.newRow hw' (i := 5) (j := 1) rfl rfl rfl)
            · try replace hc20 := of_decide_eq_false hc20
              refine Run.skip ?_
              refine Run.seq ?_
              refine Run.quiet (by intro h; cases h) ?_
              refine QOps.st rfl rfl (Yv.move rfl).yl ?_
              refine QOps.st rfl rfl (Yv.assign rfl).yl ?_
              refine QOps.nil ?_
              refine Run.ret ?_
              refine retQ.of (.inr rfl) rfl (.tmp rfl .nil) (fun w' hw' => ?_)
              exact retCR_of (((([] : List Int) ++ (greedyOf p l cl).1) ++ [x14])) (by first | rfl | simp) rfl (by first | omega | (simp; done) | (simp; omega)) (by omega) (by omega) hw'.bel (hw'.ent _ (List.mem_of_getElem? (i := 5) rfl)) (hw'.ent _ (List.mem_of_getElem? (i := 1) rfl)) (HOk.newRow hw' (i := 5) (j := 1) rfl rfl rfl)
          · try replace hs11 := of_decide_eq_false hs11
            refine SOps.sk rfl rfl ?_
            refine SOps.sk rfl rfl ?_
            refine SOps.st rfl rfl (Yv.pickF rfl rfl).yl ?_
            refine SOps.nil ?_
            refine Run.cond rfl (fun hc21 => ?_) (fun hc21 => ?_)
            · exfalso
              cases hc21
            · try replace hc21 := of_decide_eq_false hc21
              refine Run.skip ?_
              refine Run.seq ?_
              refine Run.quiet (by intro h; cases h) ?_
              refine QOps.st rfl rfl (Yv.move rfl).yl ?_
              refine QOps.st rfl rfl (Yv.assign rfl).yl ?_
              refine QOps.nil ?_
              refine Run.ret ?_
              refine retQ.of (.inr rfl) rfl (.tmp rfl .nil) (fun w' hw' => ?_)
              exact retCR_of (((([] : List Int) ++ (greedyOf p l cl).1) ++ [x14])) (by first | rfl | simp) rfl (by first | omega | (simp; done) | (simp; omega)) (by omega) (by omega) hw'.bel (hw'.ent _ (List.mem_of_getElem? (i := 5) rfl)) (hw'.ent _ (List.mem_of_getElem? (i := 1) rfl)) (HOk.newRow hw' (i := 5) (j := 1) rfl rfl rfl)
        · exfalso
          cases hc19
      · try replace hs10 := of_decide_eq_false hs10
        refine SOps.st rfl rfl (Yv.move rfl).yl ?_
        refine SOps.one rfl (One.callC (i := 4) (H' := fun _ _ => [_, _, _, _, _]) rfl callable81 (.cons rfl (.cons rfl (.nil))) rfl (fun w' hw' => one_spec (Cur.lent hc (i := 4) rfl hw') (by omega) (by omega)) (fun _ _ => rfl) (fun x16 at16 sd16 _ ha16 hb16 => ?_))
        refine SOps.st rfl rfl (Yv.pickF rfl rfl).yl ?_
        refine SOps.nil ?_
        refine Run.cond rfl (fun hc22 => ?_) (fun hc22 => ?_)
        · try replace hc22 := of_decide_eq_true hc22
          refine Run.ops ?_
          refine SOps.st rfl rfl (Yv.move rfl).yl ?_
          refine SOps.st rfl rfl (Yv.move rfl).yl ?_
          refine SOps.one rfl (One.callC (i := 4) (H' := fun _ _ => [_, _, _, _, _]) rfl callable77 (.cons rfl (.cons rfl (.nil))) rfl (fun w' hw' => pick_spec (Cur.lent hc (i := 4) rfl hw') (by omega) (by omega)) (fun _ _ => rfl) (fun x17 at17 sd17 ⟨hxl17, hxh17⟩ ha17 hb17 => ?_))
          refine SOps.one rfl (One.buildSliceG (pv := [(0, _)]) (cs := [_]) (fun l => match l with | [a0_0] => [a0_0] | _ => []) rfl el22 (.cons rfl (.nil)) rfl rfl (by kernel_rfl) rfl rfl (fun b10 => ?_))
          refine SOps.one rfl (One.append (enc := intC) (l := (([] : List Int) ++ (greedyOf p l cl).1)) (l2 := [x17]) (m' := ((([] : List Int) ++ (greedyOf p l cl).1) ++ [x17]).length) (i := 1) (H' := fun A c => [_, _, _, _, _, _]) rfl el22 zero3 rfl (by decide) rfl rfl rfl (Rd.row (i := 0) rfl) (fun _ => rfl) (by simp; try omega) (by simp; omega) (by simp; omega) (fun _ _ => rfl) (fun A11 c11 => ?_))
          refine SOps.st rfl rfl (Yv.assign rfl).yl ?_
          refine SOps.nil ?_
          refine Run.seq ?_
          refine Run.seq ?_
          refine Run.ops ?_
          refine SOps.st rfl rfl (Yv.move rfl).yl ?_
          refine SOps.st rfl rfl (Yv.lenS el22s rfl).yl ?_
          refine SOps.st rfl rfl (Yv.gtr rfl rfl).yl ?_
          refine SOps.st rfl rfl (Yv.move rfl).yl ?_
          refine SOps.split (fun hs12 => ?_) (fun hs12 => ?_)
          · try replace hs12 := of_decide_eq_true hs12
            refine SOps.st rfl rfl (Yv.move rfl).yl ?_
            refine SOps.one rfl (One.callC (i := 5) (H' := fun _ _ => [_, _, _, _, _, _]) rfl callable81 (.cons rfl (.cons rfl (.nil))) rfl (fun w' hw' => one_spec (Cur.lent hc (i := 5) rfl hw') (by omega) (by omega)) (fun _ _ => rfl) (fun x18 at18 sd18 _ ha18 hb18 => ?_))
            refine SOps.st rfl rfl (Yv.pickT rfl rfl).yl ?_
            refine SOps.nil ?_
            refine Run.cond rfl (fun hc23 => ?_) (fun hc23 => ?_)
            · try replace hc23 := of_decide_eq_true hc23
              refine Run.seq ?_
              refine Run.ops ?_
              refine SOps.st rfl rfl (Yv.move rfl).yl ?_
              refine SOps.st rfl rfl (Yv.move rfl).yl ?_
              refine SOps.st rfl rfl (Yv.indexAddr 0 el22 rfl rfl rfl (Rd.row (i := 1) rfl) (by omega)).yl ?_
              refine SOps.st rfl rfl (Yv.loadE lay3 rfl intC_len (Rd.row (i := 1) rfl) (by first | omega | (simp only [List.length_set]; omega)) rfl).yl ?_
              refine SOps.st rfl rfl (Yv.addW rfl rfl).yl ?_
              refine SOps.st rfl rfl (Yv.indexAddr 0 el22 rfl rfl rfl (Rd.row (i := 1) rfl) (by omega)).yl ?_
              refine SOps.one rfl (One.storeE (i := 1) (k := 0) (f := 0) (H' := [_, _, _, _, _, _]) (e := (IntKind.i64.wrap (nth ((([] : List Int) ++ (greedyOf p l cl).1) ++ [x17]) 0 + 1))) lay3 rfl rfl rfl intC_len rfl (by decide) rfl rfl rfl (by simp) (by first | omega | (simp only [List.length_set]; omega)) rfl ?_)
              refine SOps.nil ?_
              refine Run.ops ?_
              refine SOps.st rfl rfl (Yv.move rfl).yl ?_
              refine SOps.st rfl rfl (Yv.move rfl).yl ?_
              refine SOps.st rfl rfl (Yv.indexAddr 1 el22 rfl rfl rfl (Rd.row (i := 1) rfl) (by omega)).yl ?_
              refine SOps.st rfl rfl (Yv.loadE lay3 rfl intC_len (Rd.row (i := 1) rfl) (by first | omega | (simp only [List.length_set]; omega)) rfl).yl ?_
              refine SOps.st rfl rfl (Yv.subW rfl rfl).yl ?_
              refine SOps.st rfl rfl (Yv.indexAddr 1 el22 rfl rfl rfl (Rd.row (i := 1) rfl) (by omega)).yl ?_
              refine SOps.one rfl (One.storeE (i := 1) (k := 1) (f := 0) (H' := [_, _, _, _, _, _]) (e := (IntKind.i64.wrap (nth (((([] : List Int) ++ (greedyOf p l cl).1) ++ [x17]).set 0 (IntKind.i64.wrap (nth ((([] : List Int) ++ (greedyOf p l cl).1) ++ [x17]) 0 + 1))) 1 - 1))) lay3 rfl rfl rfl intC_len rfl (by decide) rfl rfl rfl (by simp) (by first | omega | (simp only [List.length_set]; omega)) rfl ?_)
              refine SOps.nil ?_
              refine Run.seq ?_
              refine Run.quiet (by intro h; cases h) ?_
              refine QOps.st rfl rfl (Yv.move rfl).yl ?_
              refine QOps.st rfl rfl (Yv.assign rfl).yl ?_
              refine QOps.nil ?_
              refine Run.ret ?_
              refine retQ.of (.inr rfl) rfl (.tmp rfl .nil) (fun w' hw' => ?_)
              exact retCR_of (((((([] : List Int) ++ (greedyOf p l cl).1) ++ [x17]).set 0 (IntKind.i64.wrap (nth ((([] : List Int) ++ (greedyOf p l cl).1) ++ [x17]) 0 + 1))).set 1 (IntKind.i64.wrap (nth (((([] : List Int) ++ (greedyOf p l cl).1) ++ [x17]).set 0 (IntKind.i64.wrap (nth ((([] : List Int) ++ (greedyOf p l cl).1) ++ [x17]) 0 + 1))) 1 - 1)))) (by first | rfl | simp) rfl (by first | omega | (simp; done) | (simp; omega)) (by omega) (by omega) hw'.bel (hw'.ent _ (List.mem_of_getElem? (i := 5) rfl)) (hw'.ent _ (List.mem_of_getElem? (i := 1) rfl)) (HOk.newRow hw' (i := 5) (j := 1) rfl rfl rfl)
            · try replace hc23 := of_decide_eq_false hc23
              refine Run.skip ?_
              refine Run.seq ?_
              refine Run.quiet (by intro h; cases h) ?_
              refine QOps.st rfl rfl (Yv.move rfl).yl ?_
              refine QOps.st rfl rfl (Yv.assign rfl).yl ?_
              refine QOps.nil ?_
              refine Run.ret ?_
              refine retQ.of (.inr rfl) rfl (.tmp rfl .nil) (fun w' hw' => ?_)
              exact retCR_of (((([] : List Int) ++ (greedyOf p l cl).1) ++ [x17])) (by first | rfl | simp) rfl (by first | omega | (simp; done) | (simp; omega)) (by omega) (by omega) hw'.bel (hw'.ent _ (List.mem_of_getElem? (i := 5) rfl)) (hw'.ent _ (List.mem_of_getElem? (i := 1) rfl)) (HOk.newRow hw' (i := 5) (j := 1) rfl rfl rfl)
          · try replace hs12 := of_decide_eq_false hs12
            refine SOps.sk rfl rfl ?_
            refine SOps.sk rfl rfl ?_
            refine SOps.st rfl rfl (Yv.pickF rfl rfl).yl ?_
            refine SOps.nil ?_
            refine Run.cond rfl (fun hc24 => ?_) (fun hc24 => ?_)
            · exfalso
              cases hc24
            · try replace hc24 := of_decide_eq_false hc24
              refine Run.skip ?_
              refine Run.seq ?_
              refine Run.quiet (by intro h; cases h) ?_
              refine QOps.st rfl rfl (Yv.move rfl).yl ?_
              refine QOps.st rfl rfl (Yv.assign rfl).yl ?_
              refine QOps.nil ?_
              refine Run.ret ?_
              refine retQ.of (.inr rfl) rfl (.tmp rfl .nil) (fun w' hw' => ?_)
              exact retCR_of (((([] : List Int) ++ (greedyOf p l cl).1) ++ [x17])) (by first | rfl | simp) rfl (by first | omega | (simp; done) | (simp; omega)) (by omega) (by omega) hw'.bel (hw'.ent _ (List.mem_of_getElem? (i := 5) rfl)) (hw'.ent _ (List.mem_of_getElem? (i := 1) rfl)) (HOk.newRow hw' (i := 5) (j := 1) rfl rfl rfl)
        · try replace hc22 := of_decide_eq_false hc22
          refine Run.skip ?_
          refine Run.seq ?_
          refine Run.seq ?_
          refine Run.ops ?_
          refine SOps.st rfl rfl (Yv.move rfl).yl ?_
          refine SOps.st rfl rfl (Yv.lenS el22s rfl).yl ?_
          refine SOps.st rfl rfl (Yv.gtr rfl rfl).yl ?_
          refine SOps.st rfl rfl (Yv.move rfl).yl ?_
          refine SOps.split (fun hs13 => ?_) (fun hs13 => ?_)
          · try replace hs13 := of_decide_eq_true hs13
            refine SOps.st rfl rfl (Yv.move rfl).yl ?_
            refine SOps.one rfl (One.callC (i := 4) (H' := fun _ _ => [_, _, _, _, _]) rfl callable81 (.cons rfl (.cons rfl (.nil))) rfl (fun w' hw' => one_spec (Cur.lent hc (i := 4) rfl hw') (by omega) (by omega)) (fun _ _ => rfl) (fun x19 at19 sd19 _ ha19 hb19 => ?_))
            refine SOps.st rfl rfl (Yv.pickT rfl rfl).yl ?_
            refine SOps.nil ?_
            refine Run.cond rfl (fun hc25 => ?_) (fun hc25 => ?_)
            · try replace hc25 := of_decide_eq_true hc25
              refine Run.seq ?_
              refine Run.ops ?_
              refine SOps.st rfl rfl (Yv.move rfl).yl ?_
              refine SOps.st rfl rfl (Yv.move rfl).yl ?_
              refine SOps.st rfl rfl (Yv.indexAddr 0 el22 rfl rfl rfl (Rd.row (i := 0) rfl) (by omega)).yl ?_
              refine SOps.st rfl rfl (Yv.loadE lay3 rfl intC_len (Rd.row (i := 0) rfl) (by first | omega | (simp only [List.length_set]; omega)) rfl).yl ?_
              refine SOps.st rfl rfl (Yv.addW rfl rfl).yl ?_
              refine SOps.st rfl rfl (Yv.indexAddr 0 el22 rfl rfl rfl (Rd.row (i := 0) rfl) (by omega)).yl ?_
              refine SOps.one rfl (One.storeE (i := 0) (k := 0) (f := 0) (H' := [_, _, _, _, _]) (e := (IntKind.i64.wrap (nth (([] : List Int) ++ (greedyOf p l cl).1) 0 + 1))) lay3 rfl rfl rfl intC_len rfl (by decide) rfl rfl rfl (by simp) (by first | omega | (simp only [List.length_set]; omega)) rfl ?_)
              refine SOps.nil ?_
              refine Run.ops ?_
              refine SOps.st rfl rfl (Yv.move rfl).yl ?_
              refine SOps.st rfl rfl (Yv.move rfl).yl ?_
              refine SOps.st rfl rfl (Yv.indexAddr 1 el22 rfl rfl rfl (Rd.row (i := 0) rfl) (by omega)).yl ?_
              refine SOps.st rfl rfl (Yv.loadE lay3 rfl intC_len (Rd.row (i := 0) rfl) (by first | omega | (simp only [List.length_set]; omega)) rfl).yl ?_
              refine SOps.st rfl rfl (Yv.subW rfl rfl).yl ?_
              refine SOps.st rfl rfl (Yv.indexAddr 1 el22 rfl rfl rfl (Rd.row (i := 0) rfl) (by omega)).yl ?_
              refine SOps.one rfl (One.storeE (i := 0) (k := 1) (f := 0) (H' := [_, _, _, _, _]) (e := (IntKind.i64.wrap (nth ((([] : List Int) ++ (greedyOf p l cl).1).set 0 (IntKind.i64.wrap (nth (([] : List Int) ++ (greedyOf p l cl).1) 0 + 1))) 1 - 1))) lay3 rfl rfl rfl intC_len rfl (by decide) rfl rfl rfl (by simp) (by first | omega | (simp only [List.length_set]; omega)) rfl ?_)
              refine SOps.nil ?_
              refine Run.seq ?_
              refine Run.quiet (by intro h; cases h) ?_
              refine QOps.st rfl rfl (Yv.move rfl).yl ?_
              refine QOps.st rfl rfl (Yv.assign rfl).yl ?_
              refine QOps.nil ?_
              refine Run.ret ?_
              refine retQ.of (.inr rfl) rfl (.tmp rfl .nil) (fun w' hw' => ?_)
              exact retCR_of ((((([] : List Int) ++ (greedyOf p l cl).1).set 0 (IntKind.i64.wrap (nth (([] : List Int) ++ (greedyOf p l cl).1) 0 + 1))).set 1 (IntKind.i64.wrap (nth ((([] : List Int) ++ (greedyOf p l cl).1).set 0 (IntKind.i64.wrap (nth (([] : List Int) ++ (greedyOf p l cl).1) 0 + 1))) 1 - 1)))) (by first | rfl | simp) rfl (by first | omega | (simp; done) | (simp; omega)) (by omega) (by omega) hw'.bel (hw'.ent _ (List.mem_of_getElem? (i := 4) rfl)) (hw'.ent _ (List.mem_of_getElem? (i := 0) rfl)) (HOk.newRow hw' (i := 4) (j := 0) rfl rfl rfl)
            · try replace hc25 := of_decide_eq_false hc25
              refine Run.skip ?_
              refine Run.seq ?_
              refine Run.quiet (by intro h; cases h) ?_
              refine QOps.st rfl rfl (Yv.move rfl).yl ?_
              refine QOps.st rfl rfl (Yv.assign rfl).yl ?_
              refine QOps.nil ?_
              refine Run.ret ?_
              refine retQ.of (.inr rfl) rfl (.tmp rfl .nil) (fun w' hw' => ?_)
              exact retCR_of ((([] : List Int) ++ (greedyOf p l cl).1)) (by first | rfl | simp) rfl (by first | omega | (simp; done) | (simp; omega)) (by omega) (by omega) hw'.bel (hw'.ent _ (List.mem_of_getElem? (i := 4) rfl)) (hw'.ent _ (List.mem_of_getElem? (i := 0) rfl)) (HOk.newRow hw' (i := 4) (j := 0) rfl rfl rfl)
          · try replace hs13 := of_decide_eq_false hs13
            refine SOps.sk rfl rfl ?_
            refine SOps.sk rfl rfl ?_
            refine SOps.st rfl rfl (Yv.pickF rfl rfl).yl ?_
            refine SOps.nil ?_
            refine Run.cond rfl (fun hc26 => ?_) (fun hc26 => ?_)
            · exfalso
              cases hc26
            · try replace hc26 := of_decide_eq_false hc26
              refine Run.skip ?_
              refine Run.seq ?_
              refine Run.quiet (by intro h; cases h) ?_
              refine QOps.st rfl rfl (Yv.move rfl).yl ?_
              refine QOps.st rfl rfl (Yv.assign rfl).yl ?_
              refine QOps.nil ?_
              refine Run.ret ?_
              refine retQ.of (.inr rfl) rfl (.tmp rfl .nil) (fun w' hw' => ?_)
              exact retCR_of ((([] : List Int) ++ (greedyOf p l cl).1)) (by first | rfl | simp) rfl (by first | omega | (simp; done) | (simp; omega)) (by omega) (by omega) hw'.bel (hw'.ent _ (List.mem_of_getElem? (i := 4) rfl)) (hw'.ent _ (List.mem_of_getElem? (i := 0) rfl)) (HOk.newRow hw' (i := 4) (j := 0) rfl rfl rfl)
theorem DrawIsSplit_spec {w : World} {A : Option Addr} {c : Nat} {xs : List UInt8} (hs : Sl w 1 A xs.length c (xs.flatMap byteC)) :
    Calls Try.prog 23 #[.slice A xs.length c] w (RetER2 w 3 1 intC (fun (x : Int × List Int × Int × List Int) => x.2.1) 3 1 intC (fun x => x.2.2.2) (fun x v v2 => .tuple #[.agg #[.int .i64 x.1, v], .int .i64 x.2.2.1, v2]) (fun x => x.2.1.length ≤ 20 ∧ x.2.2.2.length ≤ 21)) := by
  refine calls_of_run (vs := [_]) (L := [(0, _)]) (n := 21) (F := []) (H := []) Try.func23 rfl rfl rfl rfl (HOk.start _) ?_
  refine Run.seq ?_
  refine Run.ops ?_
  refine SOps.one rfl (One.alloc rfl zero27 (fun b1 => ?_))
  refine SOps.st rfl rfl (Yv.assign rfl).yl ?_
  refine SOps.st rfl rfl (Yv.assign rfl).yl ?_
  refine SOps.nil ?_
  refine Run.seq ?_
  refine Run.ops ?_
  refine SOps.st rfl rfl (Yv.move rfl).yl ?_
  refine SOps.st rfl rfl (Yv.buildG (pv := [(0, _)]) (cs := [_, _, _]) (fun l => match l with | [a0_0] => [a0_0, .int .i64 0, .int .u64 0] | _ => []) (.cons rfl (.nil)) rfl rfl (by kernel_rfl)).yl ?_
  refine SOps.one rfl (One.box (cs := [_, _, _]) rfl rfl rfl (fun b2 => ?_))
  refine SOps.st rfl rfl (Yv.assign rfl).yl ?_
  refine SOps.nil ?_
  refine Run.seq ?_
  refine Run.ops ?_
  refine SOps.st rfl rfl (Yv.move rfl).yl ?_
  refine SOps.one rfl (One.callCR (i := 0) (H' := fun _ _ => [_, _]) rfl callable60 (.cons rfl (.nil)) rfl (fun w' hw' => convoy_spec (Cur.own hs (i := 0) rfl hw') (by omega) (by omega)) (fun _ _ => rfl) (fun x1 Aq1 cq1 at1 sd1 hx1 ha1 hb1 => ?_))
  refine SOps.st rfl rfl (Yv.move rfl).yl ?_
  refine SOps.one rfl (One.callC (i := 1) (H' := fun _ _ => [_, _, _]) rfl callable61 (.cons rfl (.nil)) rfl (fun w' hw' => chamberLength_spec (Cur.own hs (i := 1) rfl hw') (by omega) (by omega)) (fun _ _ => rfl) (fun x2 at2 sd2 _ ha2 hb2 => ?_))
  refine SOps.one rfl (One.alloc rfl zero27 (fun b3 => ?_))
  refine SOps.one rfl (One.store (i := 0) (off := 0) (vs := [_, _]) (cs' := [_, _]) (H' := [_, _, _, _]) lay27 rfl rfl rfl rfl rfl rfl rfl rfl rfl rfl ?_)
  refine SOps.st rfl rfl (Yv.assign rfl).yl ?_
  refine SOps.nil ?_
  refine Run.seq ?_
  refine Run.draws (fun H => ((H).eraseIdx 3).eraseIdx 2) (m := 9) (listed := #[false, false, false, false, false, false, false, false, false]) (by kernel_rfl) rfl rfl ?_
  refine DOps.take (listed' := #[true, false, false, false, false, false, false, false, false]) 0 rfl (by kernel_rfl) rfl (List.Sublist.cons_cons _ (List.Sublist.cons_cons _ (List.nil_sublist _))) rfl rfl (Yv.loadBs (i := 0) lay27 rfl rfl rfl rfl) ?_
  refine DOps.take (listed' := #[true, true, false, false, false, false, false, false, false]) 1 rfl (by kernel_rfl) rfl (List.Sublist.cons_cons _ (List.Sublist.cons_cons _ (List.nil_sublist _))) rfl rfl (Yv.move rfl) ?_
  refine DOps.take (listed' := #[true, true, true, false, false, false, false, false, false]) 2 rfl (by kernel_rfl) rfl (List.Sublist.cons_cons _ (List.Sublist.cons_cons _ (List.nil_sublist _))) rfl rfl (Yv.move rfl) ?_
  refine DOps.take (listed' := #[true, true, true, true, false, false, false, false, false]) 3 rfl (by kernel_rfl) rfl (List.Sublist.cons_cons _ (List.Sublist.cons_cons _ (List.nil_sublist _))) rfl rfl (Yv.loadBs (i := 0) lay27 rfl rfl rfl rfl) ?_
  refine DOps.take (listed' := #[true, true, true, true, true, false, false, false, false]) 4 rfl (by kernel_rfl) rfl (List.Sublist.cons_cons _ (List.Sublist.cons_cons _ (List.nil_sublist _))) rfl rfl (Yv.move rfl) ?_
  refine DOps.only (listed' := #[true, true, true, true, true, true, false, false, false]) 5 rfl (by kernel_rfl) rfl rfl ?_
  refine One.callCR (i := 2) (H' := fun _ _ => [_, _, _, _]) rfl callable62 (.cons rfl (.cons rfl (.cons rfl (.nil)))) rfl (fun w' hw' => split_spec (Cur.own hs (i := 2) rfl hw') (by omega) (by omega) ((Rd.row (i := 1) rfl) w' hw') (by omega) (fun hm => HOk.rowNe hw' (i := 2) (j := 1) rfl rfl rfl (by first | exact hm | omega))) (fun _ _ => rfl) (fun x3 Aq3 cq3 at3 sd3 hx3 ha3 hb3 => ?_)
  refine ⟨(List.Sublist.cons _ (List.Sublist.cons_cons _ (List.Sublist.cons_cons _ (List.nil_sublist _)))), ?_⟩
  refine DOps.only (listed' := #[true, true, true, true, true, true, true, false, false]) 6 rfl (by kernel_rfl) rfl rfl ?_
  refine One.store (i := 4) (off := 0) (vs := [_, _]) (cs' := [_, _]) (H' := [_, _, _, _, _]) lay27 rfl rfl rfl rfl rfl rfl rfl rfl rfl rfl ?_
  refine ⟨(List.Sublist.cons _ (List.Sublist.cons_cons _ (List.Sublist.cons_cons _ (List.nil_sublist _)))), ?_⟩
  refine DOps.take (listed' := #[true, true, true, true, true, true, true, true, false]) 7 rfl (by kernel_rfl) rfl (List.Sublist.cons _ (List.Sublist.cons_cons _ (List.Sublist.cons_cons _ (List.nil_sublist _)))) rfl rfl (Yv.assign rfl) ?_
  refine DOps.take (listed' := #[true, true, true, true, true, true, true, true, true]) 8 rfl (by kernel_rfl) rfl (List.Sublist.cons _ (List.Sublist.cons_cons _ (List.Sublist.cons_cons _ (List.nil_sublist _)))) rfl rfl (Yv.assign rfl) ?_
  refine DOps.done (by kernel_rfl) ?_
  refine Run.ret ?_
  refine retQ.of (.inr rfl) rfl (.cells (i := 4) rfl lay27 rfl rfl (.tmp rfl (.tmp rfl .nil))) (fun w' hw' => ?_)
  exact ⟨(x1.1, x1.2, x2, x3), ⟨by omega, by omega⟩, retRow2_own (i := 2) (j := 0) hw' rfl rfl rfl rfl⟩
theorem evenOf_two {p cl : Int} {l : List Int} : (evenOf p l cl).2 = (greedyOf p l cl).2 := by
  unfold evenOf
  split
  · rename_i h
    rw [h]
  · rename_i h
    rw [Bool.not_eq_true] at h
    rw [h]
theorem FnConvoys_spec {w : World} {A : Option Addr} {c : Nat} {xs : List UInt8} (hs : Sl w 1 A xs.length c (xs.flatMap byteC)) (_hb : 1 * xs.length ≤ 281474976710656) :
    Calls Try.prog 5 #[.slice A xs.length c] w (RetB w (.bool true)) := by
  refine calls_of_run (vs := [_]) (L := [(0, _)]) (n := 250) (F := []) (H := []) Try.func5 rfl rfl rfl rfl (HOk.start _) ?_
  refine Run.seq ?_
  refine Run.quiet (by intro h; cases h) ?_
  refine QOps.st rfl rfl (Yv.assign rfl).yl ?_
  refine QOps.nil ?_
  refine Run.seq ?_
  refine Run.seq ?_
  refine Run.quiet (by intro h; cases h) ?_
  refine QOps.st rfl rfl (Yv.move rfl).yl ?_
  refine QOps.st rfl rfl (Yl.call callable22 (.cons rfl (.nil)) (fun w' hw' => vBig_spec)) ?_
  refine QOps.nil ?_
  refine Run.cond rfl (fun hc1 => ?_) (fun hc1 => ?_)
  · try replace hc1 := of_decide_eq_true hc1
    refine Run.seq ?_
    refine Run.quiet (by intro h; cases h) ?_
    refine QOps.st rfl rfl (Yv.assign rfl).yl ?_
    refine QOps.nil ?_
    refine Run.ret ?_
    refine retQ.of (.inr rfl) rfl (.tmp rfl .nil) (fun w' hw' => ?_)
    refine ⟨?_, hw'.bel.below⟩
    exact rfl
  · try replace hc1 := of_decide_eq_false hc1
    refine Run.skip ?_
    refine Run.seq ?_
    refine Run.ops ?_
    refine SOps.st rfl rfl (Yv.move rfl).yl ?_
    refine SOps.one rfl (One.callER2 rfl callable23 (.cons rfl (.nil)) (fun w' hw' => DrawIsSplit_spec ((Rd.arg hs) w' hw')) ?_)
    rintro ⟨ya1, yb1, yd1, ye1⟩ Aq1 cq1 Bq1 dq1 ⟨hx1, hy1⟩
    try dsimp only at *
    refine SOps.st rfl rfl (Yv.move rfl).yl ?_
    refine SOps.st rfl rfl (Yv.extract rfl rfl).yl ?_
    refine SOps.st rfl rfl (Yv.extract rfl rfl).yl ?_
    refine SOps.st rfl rfl (Yv.extract rfl rfl).yl ?_
    refine SOps.one rfl (One.alloc rfl zero27 (fun b1 => ?_))
    refine SOps.one rfl (One.store (i := 0) (off := 0) (vs := [_, _]) (cs' := [_, _]) (H' := [_, _, _]) lay27 rfl rfl rfl rfl rfl rfl rfl rfl rfl rfl ?_)
    refine SOps.st rfl rfl (Yv.assign rfl).yl ?_
    refine SOps.st rfl rfl (Yv.assign rfl).yl ?_
    refine SOps.nil ?_
    refine Run.seq ?_
    refine Run.quiet (by intro h; cases h) ?_
    refine QOps.st rfl rfl (Yv.loadBs (i := 0) lay27 rfl rfl rfl rfl).yl ?_
    refine QOps.st rfl rfl (Yv.move rfl).yl ?_
    refine QOps.st rfl rfl (Yv.move rfl).yl ?_
    refine QOps.st rfl rfl (Yl.call callable24 (.cons rfl (.cons rfl (.cons rfl (.nil)))) (fun w' hw' => IsSplit_spec ((Rd.row (i := 1) rfl) w' hw') ((Rd.row (i := 2) rfl) w' hw') (by omega))) ?_
    refine QOps.st rfl rfl (Yv.assign rfl).yl ?_
    refine QOps.nil ?_
    refine Run.seq ?_
    refine Run.seq ?_
    refine Run.quiet (fun _ => ⟨by kernel_rfl, by kernel_rfl⟩) ?_
    refine QOps.st rfl rfl (Yv.move rfl).yl ?_
    refine QOps.st rfl rfl (Yv.loadBs (i := 0) lay27 rfl rfl rfl rfl).yl ?_
    refine QOps.st rfl rfl (Yv.move rfl).yl ?_
    refine QOps.st rfl rfl (Yv.move rfl).yl ?_
    refine QOps.st rfl rfl (Yl.call callable25 (.cons rfl (.cons rfl (.cons rfl (.nil)))) (fun w' hw' => sIsSplit_spec ((Rd.row (i := 1) rfl) w' hw') ((Rd.row (i := 2) rfl) w' hw') (by omega))) ?_
    refine QOps.st rfl rfl (Yv.neB bool4 rfl rfl).yl ?_
    refine QOps.st rfl rfl (Yv.move rfl).yl ?_
    refine' QOps.or [_, _, _, _, _] _ (.tmp 54) rfl rfl rfl rfl rfl rfl (fun hg1 => ?_) ?_
    rotate_left
    · try replace hg1 := of_decide_eq_false hg1
      refine QOps.st rfl rfl (Yv.loadBs (i := 0) lay27 rfl rfl rfl rfl).yl ?_
      refine QOps.st rfl rfl (Yl.call callable18 (.cons rfl (.nil)) (fun w' hw' => IsValidConvoy_spec ((Rd.row (i := 1) rfl) w' hw'))) ?_
      refine QOps.st rfl rfl (Yv.loadBs (i := 0) lay27 rfl rfl rfl rfl).yl ?_
      refine QOps.st rfl rfl (Yl.call callable16 (.cons rfl (.nil)) (fun w' hw' => sIsValidConvoy_spec ((Rd.row (i := 1) rfl) w' hw'))) ?_
      refine QOps.st rfl rfl (Yv.neB bool4 rfl rfl).yl ?_
      exact QOps.nil rfl
    refine QOps.nil ?_
    refine Run.cond rfl (fun hc2 => ?_) (fun hc2 => ?_)
    · exfalso
      simp at hc2
    · try replace hc2 := of_decide_eq_false hc2
      refine Run.skip ?_
      refine Run.seq ?_
      refine Run.ops ?_
      refine SOps.st rfl rfl (Yv.loadBs (i := 0) lay27 rfl rfl rfl rfl).yl ?_
      refine SOps.st rfl rfl (Yv.move rfl).yl ?_
      refine SOps.one rfl (One.callRow rfl callable26 (.cons rfl (.cons rfl (.nil))) (fun w' hw' => GreedySplit_spec ((Rd.row (i := 1) rfl) w' hw')) (fun A1 c1 => ?_))
      refine SOps.st rfl rfl (Yv.move rfl).yl ?_
      refine SOps.st rfl rfl (Yv.extract rfl rfl).yl ?_
      refine SOps.st rfl rfl (Yv.extract rfl rfl).yl ?_
      refine SOps.st rfl rfl (Yv.assign rfl).yl ?_
      refine SOps.st rfl rfl (Yv.assign rfl).yl ?_
      refine SOps.nil ?_
      refine Run.seq ?_
      refine Run.seq ?_
      refine Run.ops ?_
      refine SOps.st rfl rfl (Yv.loadBs (i := 1) lay27 rfl rfl rfl rfl).yl ?_
      refine SOps.st rfl rfl (Yv.move rfl).yl ?_
      refine SOps.one rfl (One.callRow rfl callable27 (.cons rfl (.cons rfl (.nil))) (fun w' hw' => sGreedySplit_spec ((Rd.row (i := 2) rfl) w' hw')) (fun A2 c2 => ?_))
      refine SOps.st rfl rfl (Yv.move rfl).yl ?_
      refine SOps.st rfl rfl (Yv.extract rfl rfl).yl ?_
      refine SOps.st rfl rfl (Yv.extract rfl rfl).yl ?_
      refine SOps.st rfl rfl (Yv.assign rfl).yl ?_
      refine SOps.st rfl rfl (Yv.assign rfl).yl ?_
      refine SOps.nil ?_
      refine Run.seq ?_
      refine Run.quiet (by intro h; cases h) ?_
      refine QOps.st rfl rfl (Yv.move rfl).yl ?_
      refine QOps.st rfl rfl (Yv.move rfl).yl ?_
      refine QOps.st rfl rfl (Yv.neB bool4 rfl rfl).yl ?_
      refine QOps.st rfl rfl (Yv.move rfl).yl ?_
      refine' QOps.or [_, _, _, _] _ (.tmp 75) rfl rfl rfl rfl rfl rfl (fun hg2 => ?_) ?_
      rotate_left
      · try replace hg2 := of_decide_eq_false hg2
        refine QOps.st rfl rfl (Yv.move rfl).yl ?_
        refine QOps.st rfl rfl (Yv.move rfl).yl ?_
        refine QOps.st rfl rfl (Yl.call callable28 (.cons rfl (.cons rfl (.nil))) (fun w' hw' => vInts_spec ((Rd.row (i := 1) rfl) w' hw') ((Rd.row (i := 0) rfl) w' hw'))) ?_
        refine QOps.st rfl rfl (Yv.not rfl).yl ?_
        exact QOps.nil rfl
      refine QOps.nil ?_
      refine Run.cond rfl (fun hc3 => ?_) (fun hc3 => ?_)
      · exfalso
        simp at hc3
      · try replace hc3 := of_decide_eq_false hc3
        refine Run.skip ?_
        refine Run.seq ?_
        refine Run.ops ?_
        refine SOps.st rfl rfl (Yv.loadBs (i := 2) lay27 rfl rfl rfl rfl).yl ?_
        refine SOps.st rfl rfl (Yv.move rfl).yl ?_
        refine SOps.one rfl (One.callRow rfl callable29 (.cons rfl (.cons rfl (.nil))) (fun w' hw' => EvenSplit_spec ((Rd.row (i := 3) rfl) w' hw')) (fun A3 c3 => ?_))
        refine SOps.st rfl rfl (Yv.move rfl).yl ?_
        refine SOps.st rfl rfl (Yv.extract rfl rfl).yl ?_
        refine SOps.st rfl rfl (Yv.extract rfl rfl).yl ?_
        refine SOps.st rfl rfl (Yv.assign rfl).yl ?_
        refine SOps.st rfl rfl (Yv.assign rfl).yl ?_
        refine SOps.nil ?_
        have hev2 := evenOf_two (p := ya1) (l := yb1) (cl := yd1)
        refine Run.seq ?_
        refine Run.seq ?_
        refine Run.ops ?_
        refine SOps.st rfl rfl (Yv.loadBs (i := 3) lay27 rfl rfl rfl rfl).yl ?_
        refine SOps.st rfl rfl (Yv.move rfl).yl ?_
        refine SOps.one rfl (One.callRow rfl callable30 (.cons rfl (.cons rfl (.nil))) (fun w' hw' => sEvenSplit_spec ((Rd.row (i := 4) rfl) w' hw')) (fun A4 c4 => ?_))
        refine SOps.st rfl rfl (Yv.move rfl).yl ?_
        refine SOps.st rfl rfl (Yv.extract rfl rfl).yl ?_
        refine SOps.st rfl rfl (Yv.extract rfl rfl).yl ?_
        refine SOps.st rfl rfl (Yv.assign rfl).yl ?_
        refine SOps.st rfl rfl (Yv.assign rfl).yl ?_
        refine SOps.nil ?_
        refine Run.seq ?_
        refine Run.quiet (by intro h; cases h) ?_
        refine QOps.st rfl rfl (Yv.move rfl).yl ?_
        refine QOps.st rfl rfl (Yv.move rfl).yl ?_
        refine QOps.st rfl rfl (Yv.neB bool4 rfl rfl).yl ?_
        refine QOps.st rfl rfl (Yv.move rfl).yl ?_
        refine' QOps.or [_, _, _] _ (.tmp 95) rfl rfl rfl rfl rfl rfl (fun hg3 => ?_) ?_
        rotate_left
        · try replace hg3 := of_decide_eq_false hg3
          refine QOps.st rfl rfl (Yv.move rfl).yl ?_
          refine QOps.st rfl rfl (Yv.move rfl).yl ?_
          refine QOps.st rfl rfl (Yv.neB bool4 rfl rfl).yl ?_
          exact QOps.nil rfl
        refine QOps.st rfl rfl (Yv.move rfl).yl ?_
        refine' QOps.or [_, _, _, _] _ (.tmp 101) rfl rfl rfl rfl rfl rfl (fun hg4 => ?_) ?_
        rotate_left
        · try replace hg4 := of_decide_eq_false hg4
          refine QOps.st rfl rfl (Yv.move rfl).yl ?_
          refine QOps.st rfl rfl (Yv.move rfl).yl ?_
          refine QOps.st rfl rfl (Yl.call callable28 (.cons rfl (.cons rfl (.nil))) (fun w' hw' => vInts_spec ((Rd.row (i := 1) rfl) w' hw') ((Rd.row (i := 0) rfl) w' hw'))) ?_
          refine QOps.st rfl rfl (Yv.not rfl).yl ?_
          exact QOps.nil rfl
        refine QOps.nil ?_
        refine Run.cond rfl (fun hc4 => ?_) (fun hc4 => ?_)
        · exfalso
          simp [hev2] at hc4
        · try replace hc4 := of_decide_eq_false hc4
          refine Run.skip ?_
          refine Run.seq ?_
          refine Run.seq ?_
          refine Run.quiet (by intro h; cases h) ?_
          refine QOps.st rfl rfl (Yv.move rfl).yl ?_
          refine QOps.st rfl rfl (Yv.move rfl).yl ?_
          refine' QOps.and [_, _, _, _, _, _, _, _, _] _ (.tmp 113) rfl rfl rfl rfl rfl rfl (fun hg5 => ?_) ?_
          rotate_left
          · try replace hg5 := of_decide_eq_true hg5
            refine QOps.st rfl rfl (Yv.move rfl).yl ?_
            refine QOps.st rfl rfl (Yv.not rfl).yl ?_
            refine QOps.st rfl rfl (Yv.move rfl).yl ?_
            refine' QOps.or [_, _, _, _, _] _ (.tmp 112) rfl rfl rfl rfl rfl rfl (fun hg6 => ?_) ?_
            rotate_left
            · try replace hg6 := of_decide_eq_false hg6
              refine QOps.st rfl rfl (Yv.move rfl).yl ?_
              refine QOps.st rfl rfl (Yv.lenS el22s rfl).yl ?_
              refine QOps.st rfl rfl (Yv.move rfl).yl ?_
              refine QOps.st rfl rfl (Yv.lenS el22s rfl).yl ?_
              refine QOps.st rfl rfl (Yv.lss rfl rfl).yl ?_
              exact QOps.nil rfl
            exact QOps.nil rfl
          refine QOps.nil ?_
          refine Run.cond rfl (fun hc5 => ?_) (fun hc5 => ?_)
          · exfalso
            simp only [Bool.and_eq_true, Bool.or_eq_true, Bool.not_eq_true', decide_eq_true_eq] at hc5
            obtain ⟨h8, h9⟩ := hc5
            have h10 := split_min h8
            rcases h9 with h9 | h9
            · rw [h10.1] at h9; cases h9
            · omega
          · try replace hc5 := of_decide_eq_false hc5
            refine Run.skip ?_
            refine Run.seq ?_
            refine Run.ops ?_
            refine SOps.st rfl rfl (Yv.loadBs (i := 4) lay27 rfl rfl rfl rfl).yl ?_
            refine SOps.st rfl rfl (Yv.move rfl).yl ?_
            refine SOps.st rfl rfl (Yv.move rfl).yl ?_
            refine SOps.one rfl (One.callRow rfl callable31 (.cons rfl (.cons rfl (.cons rfl (.nil)))) (fun w' hw' => SlacksOf_spec ((Rd.row (i := 5) rfl) w' hw') ((Rd.row (i := 6) rfl) w' hw') (by omega)) (fun A5 c5 => ?_))
            refine SOps.st rfl rfl (Yv.move rfl).yl ?_
            refine SOps.st rfl rfl (Yv.extract rfl rfl).yl ?_
            refine SOps.st rfl rfl (Yv.extract rfl rfl).yl ?_
            refine SOps.st rfl rfl (Yv.assign rfl).yl ?_
            refine SOps.st rfl rfl (Yv.assign rfl).yl ?_
            refine SOps.nil ?_
            refine Run.seq ?_
            refine Run.seq ?_
            refine Run.ops ?_
            refine SOps.st rfl rfl (Yv.loadBs (i := 5) lay27 rfl rfl rfl rfl).yl ?_
            refine SOps.st rfl rfl (Yv.move rfl).yl ?_
            refine SOps.st rfl rfl (Yv.move rfl).yl ?_
            refine SOps.one rfl (One.callRow rfl callable32 (.cons rfl (.cons rfl (.cons rfl (.nil)))) (fun w' hw' => sSlacksOf_spec ((Rd.row (i := 6) rfl) w' hw') ((Rd.row (i := 7) rfl) w' hw') (by omega)) (fun A6 c6 => ?_))
            refine SOps.st rfl rfl (Yv.move rfl).yl ?_
            refine SOps.st rfl rfl (Yv.extract rfl rfl).yl ?_
            refine SOps.st rfl rfl (Yv.extract rfl rfl).yl ?_
            refine SOps.st rfl rfl (Yv.assign rfl).yl ?_
            refine SOps.st rfl rfl (Yv.assign rfl).yl ?_
            refine SOps.nil ?_
            refine Run.seq ?_
            refine Run.quiet (by intro h; cases h) ?_
            refine QOps.st rfl rfl (Yv.move rfl).yl ?_
            refine QOps.st rfl rfl (Yv.move rfl).yl ?_
            refine QOps.st rfl rfl (Yv.neB bool4 rfl rfl).yl ?_
            refine QOps.st rfl rfl (Yv.move rfl).yl ?_
            refine' QOps.or [_, _, _] _ (.tmp 135) rfl rfl rfl rfl rfl rfl (fun hg7 => ?_) ?_
            rotate_left
            · try replace hg7 := of_decide_eq_false hg7
              refine QOps.st rfl rfl (Yv.move rfl).yl ?_
              refine QOps.st rfl rfl (Yv.move rfl).yl ?_
              refine QOps.st rfl rfl (Yv.neB bool4 rfl rfl).yl ?_
              exact QOps.nil rfl
            refine QOps.st rfl rfl (Yv.move rfl).yl ?_
            refine' QOps.or [_, _, _, _] _ (.tmp 141) rfl rfl rfl rfl rfl rfl (fun hg8 => ?_) ?_
            rotate_left
            · try replace hg8 := of_decide_eq_false hg8
              refine QOps.st rfl rfl (Yv.move rfl).yl ?_
              refine QOps.st rfl rfl (Yv.move rfl).yl ?_
              refine QOps.st rfl rfl (Yl.call callable28 (.cons rfl (.cons rfl (.nil))) (fun w' hw' => vInts_spec ((Rd.row (i := 1) rfl) w' hw') ((Rd.row (i := 0) rfl) w' hw'))) ?_
              refine QOps.st rfl rfl (Yv.not rfl).yl ?_
              exact QOps.nil rfl
            refine QOps.nil ?_
            refine Run.cond rfl (fun hc6 => ?_) (fun hc6 => ?_)
            · exfalso
              simp at hc6
            · try replace hc6 := of_decide_eq_false hc6
              refine Run.skip ?_
              refine Run.seq ?_
              refine Run.quiet (by intro h; cases h) ?_
              refine QOps.st rfl rfl (Yv.loadBs (i := 6) lay27 rfl rfl rfl rfl).yl ?_
              refine QOps.st rfl rfl (Yv.move rfl).yl ?_
              refine QOps.st rfl rfl (Yv.move rfl).yl ?_
              refine QOps.st rfl rfl (Yl.call callable33 (.cons rfl (.cons rfl (.cons rfl (.nil)))) (fun w' hw' => RunsOf_spec ((Rd.row (i := 7) rfl) w' hw') ((Rd.row (i := 8) rfl) w' hw') (by omega))) ?_
              refine QOps.st rfl rfl (Yv.move rfl).yl ?_
              refine QOps.st rfl rfl (Yv.extract rfl rfl).yl ?_
              refine QOps.st rfl rfl (Yv.extract rfl rfl).yl ?_
              refine QOps.st rfl rfl (Yv.assign rfl).yl ?_
              refine QOps.st rfl rfl (Yv.assign rfl).yl ?_
              refine QOps.nil ?_
              refine Run.seq ?_
              refine Run.seq ?_
              refine Run.quiet (by intro h; cases h) ?_
              refine QOps.st rfl rfl (Yv.loadBs (i := 6) lay27 rfl rfl rfl rfl).yl ?_
              refine QOps.st rfl rfl (Yv.move rfl).yl ?_
              refine QOps.st rfl rfl (Yv.move rfl).yl ?_
              refine QOps.st rfl rfl (Yl.call callable34 (.cons rfl (.cons rfl (.cons rfl (.nil)))) (fun w' hw' => sRunsOf_spec ((Rd.row (i := 7) rfl) w' hw') ((Rd.row (i := 8) rfl) w' hw') (by omega))) ?_
              refine QOps.st rfl rfl (Yv.move rfl).yl ?_
              refine QOps.st rfl rfl (Yv.extract rfl rfl).yl ?_
              refine QOps.st rfl rfl (Yv.extract rfl rfl).yl ?_
              refine QOps.st rfl rfl (Yv.assign rfl).yl ?_
              refine QOps.st rfl rfl (Yv.assign rfl).yl ?_
              refine QOps.nil ?_
              refine Run.seq ?_
              refine Run.quiet (by intro h; cases h) ?_
              refine QOps.st rfl rfl (Yv.move rfl).yl ?_
              refine QOps.st rfl rfl (Yv.move rfl).yl ?_
              refine QOps.st rfl rfl (Yv.neI rfl rfl).yl ?_
              refine QOps.st rfl rfl (Yv.move rfl).yl ?_
              refine' QOps.or [_, _, _] _ (.tmp 163) rfl rfl rfl rfl rfl rfl (fun hg9 => ?_) ?_
              rotate_left
              · try replace hg9 := of_decide_eq_false hg9
                refine QOps.st rfl rfl (Yv.move rfl).yl ?_
                refine QOps.st rfl rfl (Yv.move rfl).yl ?_
                refine QOps.st rfl rfl (Yv.neB bool4 rfl rfl).yl ?_
                exact QOps.nil rfl
              refine QOps.st rfl rfl (Yv.move rfl).yl ?_
              refine' QOps.or [_, _, _, _, _, _, _, _, _] _ (.tmp 174) rfl rfl rfl rfl rfl rfl (fun hg10 => ?_) ?_
              rotate_left
              · try replace hg10 := of_decide_eq_false hg10
                refine QOps.st rfl rfl (Yv.move rfl).yl ?_
                refine QOps.st rfl rfl (Yv.move rfl).yl ?_
                refine' QOps.and [_, _, _, _, _, _] _ (.tmp 173) rfl rfl rfl rfl rfl rfl (fun hg11 => ?_) ?_
                rotate_left
                · try replace hg11 := of_decide_eq_true hg11
                  refine QOps.st rfl rfl (Yv.move rfl).yl ?_
                  refine QOps.st rfl rfl (Yv.move rfl).yl ?_
                  refine QOps.st rfl rfl (Yv.lenS el22s rfl).yl ?_
                  refine QOps.st rfl rfl (Yv.mul rfl rfl (by omega)).yl ?_
                  refine QOps.st rfl rfl (Yv.sub rfl rfl (by omega)).yl ?_
                  refine QOps.st rfl rfl (Yv.neI rfl rfl).yl ?_
                  exact QOps.nil rfl
                exact QOps.nil rfl
              refine QOps.nil ?_
              refine Run.cond rfl (fun hc7 => ?_) (fun hc7 => ?_)
              · exfalso
                unfold runsOf at hc7
                split at hc7 <;> simp at hc7
              · try replace hc7 := of_decide_eq_false hc7
                refine Run.skip ?_
                refine Run.seq ?_
                refine Run.seq ?_
                refine Run.quiet (by intro h; cases h) ?_
                refine QOps.st rfl rfl (Yv.move rfl).yl ?_
                refine QOps.nil ?_
                refine Run.cond rfl (fun hc8 => ?_) (fun hc8 => ?_)
                · try replace hc8 := of_decide_eq_true hc8
                  have hgl := greedyOf_len (p := ya1) (l := yb1) (cl := yd1)
                  obtain ⟨ho1, ho2, ho3, ho4, ho5, ho6, ho7, ho8, ho9⟩ := both hc8
                  refine Run.seq ?_
                  refine Run.ops ?_
                  refine SOps.st rfl rfl (Yv.loadBs (i := 6) lay27 rfl rfl rfl rfl).yl ?_
                  refine SOps.st rfl rfl (Yv.move rfl).yl ?_
                  refine SOps.st rfl rfl (Yv.move rfl).yl ?_
                  refine SOps.one rfl (One.callRow rfl callable31 (.cons rfl (.cons rfl (.cons rfl (.nil)))) (fun w' hw' => SlacksOf_spec ((Rd.row (i := 7) rfl) w' hw') ((Rd.row (i := 5) rfl) w' hw') (by omega)) (fun A7 c7 => ?_))
                  refine SOps.st rfl rfl (Yv.move rfl).yl ?_
                  refine SOps.st rfl rfl (Yv.extract rfl rfl).yl ?_
                  refine SOps.st rfl rfl (Yv.extract rfl rfl).yl ?_
                  refine SOps.st rfl rfl (Yv.assign rfl).yl ?_
                  refine SOps.st rfl rfl (Yv.assign rfl).yl ?_
                  refine SOps.nil ?_
                  refine Run.seq ?_
                  refine Run.ops ?_
                  refine SOps.st rfl rfl (Yv.loadBs (i := 7) lay27 rfl rfl rfl rfl).yl ?_
                  refine SOps.st rfl rfl (Yv.move rfl).yl ?_
                  refine SOps.st rfl rfl (Yv.move rfl).yl ?_
                  refine SOps.one rfl (One.callRow rfl callable31 (.cons rfl (.cons rfl (.cons rfl (.nil)))) (fun w' hw' => SlacksOf_spec ((Rd.row (i := 8) rfl) w' hw') ((Rd.row (i := 4) rfl) w' hw') (by omega)) (fun A8 c8 => ?_))
                  refine SOps.st rfl rfl (Yv.move rfl).yl ?_
                  refine SOps.st rfl rfl (Yv.extract rfl rfl).yl ?_
                  refine SOps.st rfl rfl (Yv.extract rfl rfl).yl ?_
                  refine SOps.st rfl rfl (Yv.assign rfl).yl ?_
                  refine SOps.st rfl rfl (Yv.assign rfl).yl ?_
                  refine SOps.nil ?_
                  refine Run.seq ?_
                  refine Run.quiet (by intro h; cases h) ?_
                  refine QOps.st rfl rfl (Yv.assign rfl).yl ?_
                  refine QOps.st rfl rfl (Yv.assign rfl).yl ?_
                  refine QOps.nil ?_
                  refine Run.seq ?_
                  refine Run.seq ?_
                  refine Run.quiet (by intro h; cases h) ?_
                  refine QOps.st rfl rfl (Yv.assign rfl).yl ?_
                  refine QOps.nil ?_
                  refine Run.block ?_
                  refine Run.loop (S := Nat) (fun s => match s with | i => i ≤ (slacksOfRow ya1 yb1 yd1 (greedyOf ya1 yb1 yd1).1).length) (fun s => match s with | i => [(7, .slice A1 ((greedyOf ya1 yb1 yd1).1.length) c1), (11, .slice A3 ((evenOf ya1 yb1 yd1).1.length) c3), (23, .slice A7 ((slacksOfRow ya1 yb1 yd1 (greedyOf ya1 yb1 yd1).1).length) c7), (24, .bool (isSplit ya1 yb1 yd1 (greedyOf ya1 yb1 yd1).1)), (25, .slice A8 ((slacksOfRow ya1 yb1 yd1 (evenOf ya1 yb1 yd1).1).length) c8), (26, .bool (isSplit ya1 yb1 yd1 (evenOf ya1 yb1 yd1).1)), (27, .int .i64 (sqTo (slacksOfRow ya1 yb1 yd1 (greedyOf ya1 yb1 yd1).1) i)), (28, .int .i64 0), (29, .int .i64 (i : Int))]) (fun s => match s with | i => [.row A8 c8 3 1 (slacksOfRow ya1 yb1 yd1 (evenOf ya1 yb1 yd1).1).length ((slacksOfRow ya1 yb1 yd1 (evenOf ya1 yb1 yd1).1).flatMap intC), .row A7 c7 3 1 (slacksOfRow ya1 yb1 yd1 (greedyOf ya1 yb1 yd1).1).length ((slacksOfRow ya1 yb1 yd1 (greedyOf ya1 yb1 yd1).1).flatMap intC)]) (fun s => match s with | i => (slacksOfRow ya1 yb1 yd1 (greedyOf ya1 yb1 yd1).1).length - i) 0 ?_ (SubE.cons rfl (SubE.cons rfl (SubE.cons rfl (SubE.cons rfl (SubE.cons rfl (SubE.cons rfl (SubE.cons rfl (SubE.cons rfl (SubE.cons rfl (SubE.nil _)))))))))) (List.Sublist.cons_cons _ (List.Sublist.cons_cons _ (List.nil_sublist _))) ?_
                  · exact Nat.zero_le _
                  · rintro i hi
                    show Run _ _ _ _ _ [(7, .slice A1 ((greedyOf ya1 yb1 yd1).1.length) c1), (11, .slice A3 ((evenOf ya1 yb1 yd1).1.length) c3), (23, .slice A7 ((slacksOfRow ya1 yb1 yd1 (greedyOf ya1 yb1 yd1).1).length) c7), (24, .bool (isSplit ya1 yb1 yd1 (greedyOf ya1 yb1 yd1).1)), (25, .slice A8 ((slacksOfRow ya1 yb1 yd1 (evenOf ya1 yb1 yd1).1).length) c8), (26, .bool (isSplit ya1 yb1 yd1 (evenOf ya1 yb1 yd1).1)), (27, .int .i64 (sqTo (slacksOfRow ya1 yb1 yd1 (greedyOf ya1 yb1 yd1).1) i)), (28, .int .i64 0), (29, .int .i64 (i : Int))] [.row A8 c8 3 1 (slacksOfRow ya1 yb1 yd1 (evenOf ya1 yb1 yd1).1).length ((slacksOfRow ya1 yb1 yd1 (evenOf ya1 yb1 yd1).1).flatMap intC), .row A7 c7 3 1 (slacksOfRow ya1 yb1 yd1 (greedyOf ya1 yb1 yd1).1).length ((slacksOfRow ya1 yb1 yd1 (greedyOf ya1 yb1 yd1).1).flatMap intC)] _
                    refine Run.seq ?_
                    refine Run.seq ?_
                    refine Run.quiet (by intro h; cases h) ?_
                    refine QOps.st rfl rfl (Yv.move rfl).yl ?_
                    refine QOps.st rfl rfl (Yv.move rfl).yl ?_
                    refine QOps.st rfl rfl (Yv.lenS el22s rfl).yl ?_
                    refine QOps.st rfl rfl (Yv.lss rfl rfl).yl ?_
                    refine QOps.nil ?_
                    refine Run.cond rfl (fun hc9 => ?_) (fun hc9 => ?_)
                    · try replace hc9 := of_decide_eq_true hc9
                      have hsq := sqTo_le ho6 (k := i) (by omega)
                      have hsn := sqTo_nonneg (o := (slacksOfRow ya1 yb1 yd1 (greedyOf ya1 yb1 yd1).1)) (k := i)
                      have hx := ho6 (nth (slacksOfRow ya1 yb1 yd1 (greedyOf ya1 yb1 yd1).1) i) (nth_mem (by omega))
                      have hxx : nth (slacksOfRow ya1 yb1 yd1 (greedyOf ya1 yb1 yd1).1) i * nth (slacksOfRow ya1 yb1 yd1 (greedyOf ya1 yb1 yd1).1) i ≤ 20 * 20 := Int.mul_le_mul hx.2 hx.2 hx.1 (by omega)
                      have hxx0 : 0 ≤ nth (slacksOfRow ya1 yb1 yd1 (greedyOf ya1 yb1 yd1).1) i * nth (slacksOfRow ya1 yb1 yd1 (greedyOf ya1 yb1 yd1).1) i := Int.mul_nonneg hx.1 hx.1
                      refine Run.skip ?_
                      refine Run.seq ?_
                      refine Run.block ?_
                      refine Run.quiet (fun _ => ⟨by kernel_rfl, by kernel_rfl⟩) ?_
                      refine QOps.st rfl rfl (Yv.move rfl).yl ?_
                      refine QOps.st rfl rfl (Yv.move rfl).yl ?_
                      refine QOps.st rfl rfl (Yv.move rfl).yl ?_
                      refine QOps.st rfl rfl (Yv.indexAddr i el22 rfl rfl rfl (Rd.row (i := 1) rfl) (by omega)).yl ?_
                      refine QOps.st rfl rfl (Yv.loadE lay3 rfl intC_len (Rd.row (i := 1) rfl) (by first | omega | (simp; omega)) rfl).yl ?_
                      refine QOps.st rfl rfl (Yv.move rfl).yl ?_
                      refine QOps.st rfl rfl (Yv.move rfl).yl ?_
                      refine QOps.st rfl rfl (Yv.indexAddr i el22 rfl rfl rfl (Rd.row (i := 1) rfl) (by omega)).yl ?_
                      refine QOps.st rfl rfl (Yv.loadE lay3 rfl intC_len (Rd.row (i := 1) rfl) (by first | omega | (simp; omega)) rfl).yl ?_
                      refine QOps.st rfl rfl (Yv.mul rfl rfl (by omega)).yl ?_
                      refine QOps.st rfl rfl (Yv.add rfl rfl (by omega)).yl ?_
                      refine QOps.st rfl rfl (Yv.assign rfl).yl ?_
                      refine QOps.nil ?_
                      refine Run.quiet (by intro h; cases h) ?_
                      refine QOps.st rfl rfl (Yv.move rfl).yl ?_
                      refine QOps.st rfl rfl (Yv.succN rfl rfl (by omega)).yl ?_
                      refine QOps.st rfl rfl (Yv.assign rfl).yl ?_
                      refine QOps.nil ?_
                      refine ⟨i + 1, ?_, ?_, (SubE.cons rfl (SubE.cons rfl (SubE.cons rfl (SubE.cons rfl (SubE.cons rfl (SubE.cons rfl (SubE.cons rfl (SubE.cons rfl (SubE.cons rfl (SubE.nil _)))))))))), (List.Sublist.refl _)⟩
                      · show i + 1 ≤ _; omega
                      · first | omega | (dsimp only; omega)
                    · try replace hc9 := of_decide_eq_false hc9
                      obtain rfl : i = (slacksOfRow ya1 yb1 yd1 (greedyOf ya1 yb1 yd1).1).length := by omega
                      refine Run.exit ?_
                      refine Run.seq ?_
                      refine Run.seq ?_
                      refine Run.quiet (by intro h; cases h) ?_
                      refine QOps.st rfl rfl (Yv.assign rfl).yl ?_
                      refine QOps.nil ?_
                      refine Run.block ?_
                      refine Run.loop (S := Nat) (fun s => match s with | j => j ≤ (slacksOfRow ya1 yb1 yd1 (evenOf ya1 yb1 yd1).1).length) (fun s => match s with | j => [(7, .slice A1 ((greedyOf ya1 yb1 yd1).1.length) c1), (11, .slice A3 ((evenOf ya1 yb1 yd1).1.length) c3), (23, .slice A7 ((slacksOfRow ya1 yb1 yd1 (greedyOf ya1 yb1 yd1).1).length) c7), (24, .bool (isSplit ya1 yb1 yd1 (greedyOf ya1 yb1 yd1).1)), (25, .slice A8 ((slacksOfRow ya1 yb1 yd1 (evenOf ya1 yb1 yd1).1).length) c8), (26, .bool (isSplit ya1 yb1 yd1 (evenOf ya1 yb1 yd1).1)), (27, .int .i64 (sqTo (slacksOfRow ya1 yb1 yd1 (greedyOf ya1 yb1 yd1).1) (slacksOfRow ya1 yb1 yd1 (greedyOf ya1 yb1 yd1).1).length)), (28, .int .i64 (sqTo (slacksOfRow ya1 yb1 yd1 (evenOf ya1 yb1 yd1).1) j)), (30, .int .i64 (j : Int))]) (fun s => match s with | j => [.row A8 c8 3 1 (slacksOfRow ya1 yb1 yd1 (evenOf ya1 yb1 yd1).1).length ((slacksOfRow ya1 yb1 yd1 (evenOf ya1 yb1 yd1).1).flatMap intC), .row A7 c7 3 1 (slacksOfRow ya1 yb1 yd1 (greedyOf ya1 yb1 yd1).1).length ((slacksOfRow ya1 yb1 yd1 (greedyOf ya1 yb1 yd1).1).flatMap intC)]) (fun s => match s with | j => (slacksOfRow ya1 yb1 yd1 (evenOf ya1 yb1 yd1).1).length - j) 0 ?_ (SubE.cons rfl (SubE.cons rfl (SubE.cons rfl (SubE.cons rfl (SubE.cons rfl (SubE.cons rfl (SubE.cons rfl (SubE.cons rfl (SubE.cons rfl (SubE.nil _)))))))))) (List.Sublist.refl _) ?_
                      · exact Nat.zero_le _
                      · rintro j hj
                        show Run _ _ _ _ _ [(7, .slice A1 ((greedyOf ya1 yb1 yd1).1.length) c1), (11, .slice A3 ((evenOf ya1 yb1 yd1).1.length) c3), (23, .slice A7 ((slacksOfRow ya1 yb1 yd1 (greedyOf ya1 yb1 yd1).1).length) c7), (24, .bool (isSplit ya1 yb1 yd1 (greedyOf ya1 yb1 yd1).1)), (25, .slice A8 ((slacksOfRow ya1 yb1 yd1 (evenOf ya1 yb1 yd1).1).length) c8), (26, .bool (isSplit ya1 yb1 yd1 (evenOf ya1 yb1 yd1).1)), (27, .int .i64 (sqTo (slacksOfRow ya1 yb1 yd1 (greedyOf ya1 yb1 yd1).1) (slacksOfRow ya1 yb1 yd1 (greedyOf ya1 yb1 yd1).1).length)), (28, .int .i64 (sqTo (slacksOfRow ya1 yb1 yd1 (evenOf ya1 yb1 yd1).1) j)), (30, .int .i64 (j : Int))] [.row A8 c8 3 1 (slacksOfRow ya1 yb1 yd1 (evenOf ya1 yb1 yd1).1).length ((slacksOfRow ya1 yb1 yd1 (evenOf ya1 yb1 yd1).1).flatMap intC), .row A7 c7 3 1 (slacksOfRow ya1 yb1 yd1 (greedyOf ya1 yb1 yd1).1).length ((slacksOfRow ya1 yb1 yd1 (greedyOf ya1 yb1 yd1).1).flatMap intC)] _
                        refine Run.seq ?_
                        refine Run.seq ?_
                        refine Run.quiet (by intro h; cases h) ?_
                        refine QOps.st rfl rfl (Yv.move rfl).yl ?_
                        refine QOps.st rfl rfl (Yv.move rfl).yl ?_
                        refine QOps.st rfl rfl (Yv.lenS el22s rfl).yl ?_
                        refine QOps.st rfl rfl (Yv.lss rfl rfl).yl ?_
                        refine QOps.nil ?_
                        refine Run.cond rfl (fun hc10 => ?_) (fun hc10 => ?_)
                        · try replace hc10 := of_decide_eq_true hc10
                          have hsq := sqTo_le ho7 (k := j) (by omega)
                          have hsn := sqTo_nonneg (o := (slacksOfRow ya1 yb1 yd1 (evenOf ya1 yb1 yd1).1)) (k := j)
                          have hx := ho7 (nth (slacksOfRow ya1 yb1 yd1 (evenOf ya1 yb1 yd1).1) j) (nth_mem (by omega))
                          have hxx : nth (slacksOfRow ya1 yb1 yd1 (evenOf ya1 yb1 yd1).1) j * nth (slacksOfRow ya1 yb1 yd1 (evenOf ya1 yb1 yd1).1) j ≤ 20 * 20 := Int.mul_le_mul hx.2 hx.2 hx.1 (by omega)
                          have hxx0 : 0 ≤ nth (slacksOfRow ya1 yb1 yd1 (evenOf ya1 yb1 yd1).1) j * nth (slacksOfRow ya1 yb1 yd1 (evenOf ya1 yb1 yd1).1) j := Int.mul_nonneg hx.1 hx.1
                          refine Run.skip ?_
                          refine Run.seq ?_
                          refine Run.block ?_
                          refine Run.quiet (fun _ => ⟨by kernel_rfl, by kernel_rfl⟩) ?_
                          refine QOps.st rfl rfl (Yv.move rfl).yl ?_
                          refine QOps.st rfl rfl (Yv.move rfl).yl ?_
                          refine QOps.st rfl rfl (Yv.move rfl).yl ?_
                          refine QOps.st rfl rfl (Yv.indexAddr j el22 rfl rfl rfl (Rd.row (i := 0) rfl) (by omega)).yl ?_
                          refine QOps.st rfl rfl (Yv.loadE lay3 rfl intC_len (Rd.row (i := 0) rfl) (by first | omega | (simp; omega)) rfl).yl ?_
                          refine QOps.st rfl rfl (Yv.move rfl).yl ?_
                          refine QOps.st rfl rfl (Yv.move rfl).yl ?_
                          refine QOps.st rfl rfl (Yv.indexAddr j el22 rfl rfl rfl (Rd.row (i := 0) rfl) (by omega)).yl ?_
                          refine QOps.st rfl rfl (Yv.loadE lay3 rfl intC_len (Rd.row (i := 0) rfl) (by first | omega | (simp; omega)) rfl).yl ?_
                          refine QOps.st rfl rfl (Yv.mul rfl rfl (by omega)).yl ?_
                          refine QOps.st rfl rfl (Yv.add rfl rfl (by omega)).yl ?_
                          refine QOps.st rfl rfl (Yv.assign rfl).yl ?_
                          refine QOps.nil ?_
                          refine Run.quiet (by intro h; cases h) ?_
                          refine QOps.st rfl rfl (Yv.move rfl).yl ?_
                          refine QOps.st rfl rfl (Yv.succN rfl rfl (by omega)).yl ?_
                          refine QOps.st rfl rfl (Yv.assign rfl).yl ?_
                          refine QOps.nil ?_
                          refine ⟨j + 1, ?_, ?_, (SubE.cons rfl (SubE.cons rfl (SubE.cons rfl (SubE.cons rfl (SubE.cons rfl (SubE.cons rfl (SubE.cons rfl (SubE.cons rfl (SubE.cons rfl (SubE.nil _)))))))))), (List.Sublist.refl _)⟩
                          · show j + 1 ≤ _; omega
                          · first | omega | (dsimp only; omega)
                        · try replace hc10 := of_decide_eq_false hc10
                          obtain rfl : j = (slacksOfRow ya1 yb1 yd1 (evenOf ya1 yb1 yd1).1).length := by omega
                          refine Run.exit ?_
                          refine Run.seq ?_
                          refine Run.quiet (by intro h; cases h) ?_
                          refine QOps.st rfl rfl (Yv.move rfl).yl ?_
                          refine QOps.st rfl rfl (Yv.not rfl).yl ?_
                          refine QOps.st rfl rfl (Yv.move rfl).yl ?_
                          refine' QOps.or [_, _] _ (.tmp 229) rfl rfl rfl rfl rfl rfl (fun hg12 => ?_) ?_
                          rotate_left
                          · try replace hg12 := of_decide_eq_false hg12
                            refine QOps.st rfl rfl (Yv.move rfl).yl ?_
                            refine QOps.st rfl rfl (Yv.not rfl).yl ?_
                            exact QOps.nil rfl
                          refine QOps.st rfl rfl (Yv.move rfl).yl ?_
                          refine' QOps.or [_, _, _, _, _] _ (.tmp 236) rfl rfl rfl rfl rfl rfl (fun hg13 => ?_) ?_
                          rotate_left
                          · try replace hg13 := of_decide_eq_false hg13
                            refine QOps.st rfl rfl (Yv.move rfl).yl ?_
                            refine QOps.st rfl rfl (Yv.lenS el22s rfl).yl ?_
                            refine QOps.st rfl rfl (Yv.move rfl).yl ?_
                            refine QOps.st rfl rfl (Yv.lenS el22s rfl).yl ?_
                            refine QOps.st rfl rfl (Yv.neI rfl rfl).yl ?_
                            exact QOps.nil rfl
                          refine QOps.st rfl rfl (Yv.move rfl).yl ?_
                          refine' QOps.or [_, _, _] _ (.tmp 241) rfl rfl rfl rfl rfl rfl (fun hg14 => ?_) ?_
                          rotate_left
                          · try replace hg14 := of_decide_eq_false hg14
                            refine QOps.st rfl rfl (Yv.move rfl).yl ?_
                            refine QOps.st rfl rfl (Yv.move rfl).yl ?_
                            refine QOps.st rfl rfl (Yv.gtr rfl rfl).yl ?_
                            exact QOps.nil rfl
                          refine QOps.st rfl rfl (Yv.move rfl).yl ?_
                          refine' QOps.or [_, _, _, _, _] _ (.tmp 248) rfl rfl rfl rfl rfl rfl (fun hg15 => ?_) ?_
                          rotate_left
                          · try replace hg15 := of_decide_eq_false hg15
                            refine QOps.st rfl rfl (Yv.move rfl).yl ?_
                            refine QOps.st rfl rfl (Yl.call callable35 (.cons rfl (.nil)) (fun w' hw' => vSum2_spec ((Rd.row (i := 1) rfl) w' hw') (by omega) (by assumption))) ?_
                            refine QOps.st rfl rfl (Yv.move rfl).yl ?_
                            refine QOps.st rfl rfl (Yl.call callable35 (.cons rfl (.nil)) (fun w' hw' => vSum2_spec ((Rd.row (i := 0) rfl) w' hw') (by omega) (by assumption))) ?_
                            refine QOps.st rfl rfl (Yv.neI rfl rfl).yl ?_
                            exact QOps.nil rfl
                          refine QOps.nil ?_
                          refine Run.cond rfl (fun hc11 => ?_) (fun hc11 => ?_)
                          · exfalso
                            rw [ho1, ho2] at hc11
                            simp at hc11
                            omega
                          · try replace hc11 := of_decide_eq_false hc11
                            refine Run.skip ?_
                            refine Run.seq ?_
                            refine Run.quiet (by intro h; cases h) ?_
                            refine QOps.st rfl rfl (Yv.assign rfl).yl ?_
                            refine QOps.nil ?_
                            refine Run.ret ?_
                            refine retQ.of (.inr rfl) rfl (.tmp rfl .nil) (fun w' hw' => ?_)
                            refine ⟨?_, hw'.bel.below⟩
                            exact rfl
                · try replace hc8 := of_decide_eq_false hc8
                  refine Run.skip ?_
                  refine Run.seq ?_
                  refine Run.quiet (by intro h; cases h) ?_
                  refine QOps.st rfl rfl (Yv.assign rfl).yl ?_
                  refine QOps.nil ?_
                  refine Run.ret ?_
                  refine retQ.of (.inr rfl) rfl (.tmp rfl .nil) (fun w' hw' => ?_)
                  refine ⟨?_, hw'.bel.below⟩
                  exact rfl
end Go.Proofs.Ytfpglglolhlegaa
