/- Convoys that join: the law. Conditions: none. -/
import Derived.Test.YtfpglglolhlegaaCon6
namespace Go.Proofs.Ytfpglglolhlegaa
open Go.RowKit
theorem FnExactJoinConvoys_spec {w : World} {A A2 : Option Addr} {c c2 : Nat} {p p2 : Int} {l l2 : List Int} (hs : Sl w 1 A l.length c (l.flatMap intC)) (hb : 8 * l.length ≤ 281474976710656) (hs2 : Sl w 1 A2 l2.length c2 (l2.flatMap intC)) (hb2 : 8 * l2.length ≤ 281474976710656) :
    Calls Try.prog 6 #[.agg #[.int .i64 p, .slice A l.length c], .agg #[.int .i64 p2, .slice A2 l2.length c2]] w (RetB w (.bool true)) := by
  have hgl := joinL_len (p := p) (l := l) (p2 := p2) (l2 := l2)
  refine calls_of_run (vs := [_, _]) (L := [(0, _), (1, _)]) (n := 119) (F := []) (H := []) Try.func6 rfl rfl rfl rfl (HOk.start _) ?_
  refine Run.seq ?_
  refine Run.ops ?_
  refine SOps.one rfl (One.box (cs := [_, _]) rfl rfl rfl (fun b1 => ?_))
  refine SOps.one rfl (One.box (cs := [_, _]) rfl rfl rfl (fun b2 => ?_))
  refine SOps.st rfl rfl (Yv.assign rfl).yl ?_
  refine SOps.nil ?_
  refine Run.seq ?_
  refine Run.quiet (by intro h; cases h) ?_
  refine QOps.st rfl rfl (Yv.assign rfl).yl ?_
  refine QOps.nil ?_
  refine Run.seq ?_
  refine Run.quiet (by intro h; cases h) ?_
  refine QOps.st rfl rfl (Yv.loadBs (i := 1) lay24 rfl rfl rfl rfl).yl ?_
  refine QOps.st rfl rfl (Yv.move rfl).yl ?_
  refine QOps.st rfl rfl (Yl.call callable15 (.cons rfl (.cons rfl (.nil))) (fun w' hw' => szConvoy_spec (by omega) (by omega) (by omega))) ?_
  refine QOps.st rfl rfl (Yv.assign rfl).yl ?_
  refine QOps.nil ?_
  refine Run.seq ?_
  refine Run.seq ?_
  refine Run.quiet (by intro h; cases h) ?_
  refine QOps.st rfl rfl (Yv.move rfl).yl ?_
  refine QOps.st rfl rfl (Yv.lss rfl rfl).yl ?_
  refine QOps.nil ?_
  refine Run.cond rfl (fun hc1 => ?_) (fun hc1 => ?_)
  · try replace hc1 := of_decide_eq_true hc1
    refine Run.seq ?_
    refine Run.quiet (by intro h; cases h) ?_
    refine QOps.st rfl rfl (Yv.assign rfl).yl ?_
    refine QOps.nil ?_
    refine Run.ret ?_
    refine retQ.of (.inr rfl) rfl (.tmp rfl .nil) (fun w' hw' => ?_)
    refine ⟨?_, hw'.bel.below⟩
    exact rfl
  · try replace hc1 := of_decide_eq_false hc1
    have hn1 : l.length ≤ 1048576 := by split at hc1 <;> omega
    rw [if_neg (by omega)] at hc1
    refine Run.skip ?_
    refine Run.seq ?_
    refine Run.quiet (by intro h; cases h) ?_
    refine QOps.st rfl rfl (Yv.loadBs (i := 0) lay24 rfl rfl rfl rfl).yl ?_
    refine QOps.st rfl rfl (Yv.move rfl).yl ?_
    refine QOps.st rfl rfl (Yl.call callable15 (.cons rfl (.cons rfl (.nil))) (fun w' hw' => szConvoy_spec (by omega) (by omega) (by omega))) ?_
    refine QOps.st rfl rfl (Yv.assign rfl).yl ?_
    refine QOps.nil ?_
    refine Run.seq ?_
    refine Run.seq ?_
    refine Run.quiet (by intro h; cases h) ?_
    refine QOps.st rfl rfl (Yv.move rfl).yl ?_
    refine QOps.st rfl rfl (Yv.lss rfl rfl).yl ?_
    refine QOps.nil ?_
    refine Run.cond rfl (fun hc2 => ?_) (fun hc2 => ?_)
    · try replace hc2 := of_decide_eq_true hc2
      refine Run.seq ?_
      refine Run.quiet (by intro h; cases h) ?_
      refine QOps.st rfl rfl (Yv.assign rfl).yl ?_
      refine QOps.nil ?_
      refine Run.ret ?_
      refine retQ.of (.inr rfl) rfl (.tmp rfl .nil) (fun w' hw' => ?_)
      refine ⟨?_, hw'.bel.below⟩
      exact rfl
    · try replace hc2 := of_decide_eq_false hc2
      have hn2 : l2.length ≤ 1048576 := by split at hc2 <;> split at hc2 <;> omega
      refine Run.skip ?_
      refine Run.seq ?_
      refine Run.draws (fun H => H) (m := 11) (listed := #[false, false, false, false, false, false, false, false, false, false, false]) (by kernel_rfl) rfl rfl ?_
      refine DOps.take (listed' := #[true, false, false, false, false, false, false, false, false, false, false]) 0 rfl (by kernel_rfl) rfl (List.Sublist.refl _) rfl rfl (Yv.loadBs (i := 1) lay24 rfl rfl rfl rfl) ?_
      refine DOps.take (listed' := #[true, false, true, false, false, false, false, false, false, false, false]) 2 rfl (by kernel_rfl) rfl (List.Sublist.refl _) rfl rfl (Yv.loadBs (i := 0) lay24 rfl rfl rfl rfl) ?_
      refine DOps.fork2 (l1 := #[true, true, true, false, false, false, false, false, false, false, false]) (l2 := #[true, false, true, false, false, false, false, false, true, false, false]) 1 8 rfl rfl (by kernel_rfl) rfl rfl rfl rfl ?_ ?_
      ·
        refine One.callRow rfl callable17 (.cons rfl (.nil)) (fun w' hw' => toConvoy_spec ((Rd.arg hs) w' hw') (by omega)) (fun A1 c1 => ?_)
        refine ⟨(List.Sublist.cons _ (List.Sublist.refl _)), ?_⟩
        refine DOps.fork2 (l1 := #[true, true, true, true, false, false, false, false, false, false, false]) (l2 := #[true, true, true, false, false, false, false, false, true, false, false]) 3 8 rfl rfl (by kernel_rfl) rfl rfl rfl rfl ?_ ?_
        ·
          refine One.callRow rfl callable17 (.cons rfl (.nil)) (fun w' hw' => toConvoy_spec ((Rd.arg hs2) w' hw') (by omega)) (fun A2 c2 => ?_)
          refine ⟨(List.Sublist.cons _ (List.Sublist.cons _ (List.Sublist.refl _))), ?_⟩
          refine DOps.fork2 (l1 := #[true, true, true, true, true, false, false, false, false, false, false]) (l2 := #[true, true, true, true, false, false, false, false, true, false, false]) 4 8 rfl rfl (by kernel_rfl) rfl rfl rfl rfl ?_ ?_
          ·
            refine One.callRow rfl callable36 (.cons rfl (.cons rfl (.nil))) (fun w' hw' => sJoinConvoys_spec ((Rd.row (i := 1) rfl) w' hw') ((Rd.row (i := 0) rfl) w' hw') (by omega) (by omega)) (fun A3 c3 => ?_)
            refine ⟨(List.Sublist.cons _ (List.Sublist.cons _ (List.Sublist.cons _ (List.Sublist.refl _)))), ?_⟩
            refine DOps.take (listed' := #[true, true, true, true, true, true, false, false, false, false, false]) 5 rfl (by kernel_rfl) rfl (List.Sublist.cons _ (List.Sublist.cons _ (List.Sublist.cons _ (List.Sublist.refl _)))) rfl rfl (Yv.move rfl) ?_
            refine DOps.take (listed' := #[true, true, true, true, true, true, true, false, false, false, false]) 6 rfl (by kernel_rfl) rfl (List.Sublist.cons _ (List.Sublist.cons _ (List.Sublist.cons _ (List.Sublist.refl _)))) rfl rfl (Yv.extract rfl rfl) ?_
            refine DOps.take (listed' := #[true, true, true, true, true, true, true, true, false, false, false]) 7 rfl (by kernel_rfl) rfl (List.Sublist.cons _ (List.Sublist.cons _ (List.Sublist.cons _ (List.Sublist.refl _)))) rfl rfl (Yv.extract rfl rfl) ?_
            refine DOps.only (listed' := #[true, true, true, true, true, true, true, true, true, false, false]) 8 rfl (by kernel_rfl) rfl rfl ?_
            refine One.alloc rfl zero27 (fun b3 => ?_)
            refine ⟨(List.Sublist.cons _ (List.Sublist.cons _ (List.Sublist.cons _ (List.Sublist.cons _ (List.Sublist.refl _))))), ?_⟩
            refine DOps.only (listed' := #[true, true, true, true, true, true, true, true, true, true, false]) 9 rfl (by kernel_rfl) rfl rfl ?_
            refine One.store (i := 0) (off := 0) (vs := [_, _]) (cs' := [_, _]) (H' := [_, _, _, _, _, _]) lay27 rfl rfl rfl rfl rfl rfl rfl rfl rfl rfl ?_
            refine ⟨(List.Sublist.cons _ (List.Sublist.cons _ (List.Sublist.cons _ (List.Sublist.cons _ (List.Sublist.refl _))))), ?_⟩
            refine DOps.take (listed' := #[true, true, true, true, true, true, true, true, true, true, true]) 10 rfl (by kernel_rfl) rfl (List.Sublist.cons _ (List.Sublist.cons _ (List.Sublist.cons _ (List.Sublist.cons _ (List.Sublist.refl _))))) rfl rfl (Yv.assign rfl) ?_
            refine DOps.done (by kernel_rfl) ?_
            refine Run.seq ?_
            refine Run.ops ?_
            refine SOps.st rfl rfl (Yv.loadBs (i := 5) lay24 rfl rfl rfl rfl).yl ?_
            refine SOps.one rfl (One.callRow rfl callable17 (.cons rfl (.nil)) (fun w' hw' => toConvoy_spec ((Rd.arg hs) w' hw') (by omega)) (fun A4 c4 => ?_))
            refine SOps.one rfl (One.alloc rfl zero27 (fun b4 => ?_))
            refine SOps.one rfl (One.store (i := 0) (off := 0) (vs := [_, _]) (cs' := [_, _]) (H' := [_, _, _, _, _, _, _, _]) lay27 rfl rfl rfl rfl rfl rfl rfl rfl rfl rfl ?_)
            refine SOps.nil ?_
            refine Run.seq ?_
            refine Run.ops ?_
            refine SOps.st rfl rfl (Yv.loadBs (i := 6) lay24 rfl rfl rfl rfl).yl ?_
            refine SOps.one rfl (One.callRow rfl callable17 (.cons rfl (.nil)) (fun w' hw' => toConvoy_spec ((Rd.arg hs2) w' hw') (by omega)) (fun A5 c5 => ?_))
            refine SOps.one rfl (One.alloc rfl zero27 (fun b5 => ?_))
            refine SOps.one rfl (One.store (i := 0) (off := 0) (vs := [_, _]) (cs' := [_, _]) (H' := [_, _, _, _, _, _, _, _, _, _]) lay27 rfl rfl rfl rfl rfl rfl rfl rfl rfl rfl ?_)
            refine SOps.nil ?_
            refine Run.seq ?_
            refine Run.ops ?_
            refine SOps.st rfl rfl (Yv.loadBs (i := 2) lay27 rfl rfl rfl rfl).yl ?_
            refine SOps.st rfl rfl (Yv.loadBs (i := 0) lay27 rfl rfl rfl rfl).yl ?_
            refine SOps.one rfl (One.callRow rfl callable37 (.cons rfl (.cons rfl (.nil))) (fun w' hw' => JoinConvoys_spec ((Rd.row (i := 3) rfl) w' hw') ((Rd.row (i := 1) rfl) w' hw') (by omega) (by omega)) (fun A6 c6 => ?_))
            refine SOps.st rfl rfl (Yv.move rfl).yl ?_
            refine SOps.st rfl rfl (Yv.extract rfl rfl).yl ?_
            refine SOps.st rfl rfl (Yv.extract rfl rfl).yl ?_
            refine SOps.one rfl (One.alloc rfl zero27 (fun b6 => ?_))
            refine SOps.one rfl (One.store (i := 0) (off := 0) (vs := [_, _]) (cs' := [_, _]) (H' := [_, _, _, _, _, _, _, _, _, _, _, _]) lay27 rfl rfl rfl rfl rfl rfl rfl rfl rfl rfl ?_)
            refine SOps.st rfl rfl (Yv.assign rfl).yl ?_
            refine SOps.nil ?_
            refine Run.seq ?_
            refine Run.seq ?_
            refine Run.quiet (by intro h; cases h) ?_
            refine QOps.st rfl rfl (Yv.loadBs (i := 0) lay27 rfl rfl rfl rfl).yl ?_
            refine QOps.st rfl rfl (Yv.loadBs (i := 6) lay27 rfl rfl rfl rfl).yl ?_
            refine QOps.st rfl rfl (Yl.call callable19 (.cons rfl (.cons rfl (.nil))) (fun w' hw' => eqConvoy_spec ((Rd.row (i := 1) rfl) w' hw') ((Rd.row (i := 7) rfl) w' hw'))) ?_
            refine QOps.st rfl rfl (Yv.not rfl).yl ?_
            refine QOps.st rfl rfl (Yv.move rfl).yl ?_
            refine' QOps.or [_, _, _] _ (.tmp 52) rfl rfl rfl rfl rfl rfl (fun hg1 => ?_) ?_
            rotate_left
            · try replace hg1 := of_decide_eq_false hg1
              refine QOps.st rfl rfl (Yv.move rfl).yl ?_
              refine QOps.st rfl rfl (Yv.move rfl).yl ?_
              refine QOps.st rfl rfl (Yv.neB bool4 rfl rfl).yl ?_
              exact QOps.nil rfl
            refine QOps.nil ?_
            refine Run.cond rfl (fun hc3 => ?_) (fun hc3 => ?_)
            · exfalso
              first | (simp at hc3; done) | (simp at hc3; omega) | omega
            · try replace hc3 := of_decide_eq_false hc3
              refine Run.skip ?_
              refine Run.seq ?_
              refine Run.seq ?_
              refine Run.draws (fun H => H) (m := 5) (listed := #[false, false, false, false, false]) (by kernel_rfl) rfl rfl ?_
              refine DOps.take (listed' := #[true, false, false, false, false]) 0 rfl (by kernel_rfl) rfl (List.Sublist.refl _) rfl rfl (Yv.loadBs (i := 4) lay27 rfl rfl rfl rfl) ?_
              refine DOps.take (listed' := #[true, true, false, false, false]) 1 rfl (by kernel_rfl) rfl (List.Sublist.refl _) rfl rfl (Yv.loadBs (i := 11) lay24 rfl rfl rfl rfl) ?_
              refine DOps.only (listed' := #[true, true, true, false, false]) 2 rfl (by kernel_rfl) rfl rfl ?_
              refine One.callRow rfl callable17 (.cons rfl (.nil)) (fun w' hw' => toConvoy_spec ((Rd.arg hs) w' hw') (by omega)) (fun A7 c7 => ?_)
              refine ⟨(List.Sublist.cons _ (List.Sublist.refl _)), ?_⟩
              refine DOps.only (listed' := #[true, true, true, true, false]) 3 rfl (by kernel_rfl) rfl rfl ?_
              refine One.st rfl (Yl.call callable19 (.cons rfl (.cons rfl (.nil))) (fun w' hw' => eqConvoy_spec ((Rd.row (i := 6) rfl) w' hw') ((Rd.row (i := 0) rfl) w' hw'))) ?_
              refine ⟨(List.Sublist.cons _ (List.Sublist.refl _)), ?_⟩
              refine DOps.take (listed' := #[true, true, true, true, true]) 4 rfl (by kernel_rfl) rfl (List.Sublist.cons _ (List.Sublist.refl _)) rfl rfl (Yv.not rfl) ?_
              refine DOps.done (by kernel_rfl) ?_
              refine Run.cond rfl (fun hc4 => ?_) (fun hc4 => ?_)
              · exfalso
                first | (simp at hc4; done) | (simp at hc4; omega) | omega
              · try replace hc4 := of_decide_eq_false hc4
                refine Run.skip ?_
                refine Run.seq ?_
                refine Run.seq ?_
                refine Run.draws (fun H => H) (m := 5) (listed := #[false, false, false, false, false]) (by kernel_rfl) rfl rfl ?_
                refine DOps.take (listed' := #[true, false, false, false, false]) 0 rfl (by kernel_rfl) rfl (List.Sublist.refl _) rfl rfl (Yv.loadBs (i := 3) lay27 rfl rfl rfl rfl) ?_
                refine DOps.take (listed' := #[true, true, false, false, false]) 1 rfl (by kernel_rfl) rfl (List.Sublist.refl _) rfl rfl (Yv.loadBs (i := 11) lay24 rfl rfl rfl rfl) ?_
                refine DOps.only (listed' := #[true, true, true, false, false]) 2 rfl (by kernel_rfl) rfl rfl ?_
                refine One.callRow rfl callable17 (.cons rfl (.nil)) (fun w' hw' => toConvoy_spec ((Rd.arg hs2) w' hw') (by omega)) (fun A8 c8 => ?_)
                refine ⟨(List.Sublist.cons _ (List.Sublist.refl _)), ?_⟩
                refine DOps.only (listed' := #[true, true, true, true, false]) 3 rfl (by kernel_rfl) rfl rfl ?_
                refine One.st rfl (Yl.call callable19 (.cons rfl (.cons rfl (.nil))) (fun w' hw' => eqConvoy_spec ((Rd.row (i := 5) rfl) w' hw') ((Rd.row (i := 0) rfl) w' hw'))) ?_
                refine ⟨(List.Sublist.cons _ (List.Sublist.refl _)), ?_⟩
                refine DOps.take (listed' := #[true, true, true, true, true]) 4 rfl (by kernel_rfl) rfl (List.Sublist.cons _ (List.Sublist.refl _)) rfl rfl (Yv.not rfl) ?_
                refine DOps.done (by kernel_rfl) ?_
                refine Run.cond rfl (fun hc5 => ?_) (fun hc5 => ?_)
                · exfalso
                  first | (simp at hc5; done) | (simp at hc5; omega) | omega
                · try replace hc5 := of_decide_eq_false hc5
                  refine Run.skip ?_
                  refine Run.seq ?_
                  refine Run.quiet (by intro h; cases h) ?_
                  refine QOps.st rfl rfl (Yv.assign rfl).yl ?_
                  refine QOps.nil ?_
                  refine Run.seq ?_
                  refine Run.ops ?_
                  refine SOps.st rfl rfl (Yv.loadBs (i := 6) lay27 rfl rfl rfl rfl).yl ?_
                  refine SOps.st rfl rfl (Yv.move rfl).yl ?_
                  refine SOps.one rfl (One.callMut (i := 7) (H' := [_, _, _, _, _, _, _, _, _, _, _, _, _, _]) rfl callable38 (.cons rfl (.cons rfl (.nil))) rfl (fun w' hw' => markConvoy_spec (hw'.ent _ (List.mem_of_getElem? (i := 7) rfl)) (by omega) (by omega) (by omega)) rfl ?_)
                  refine SOps.st rfl rfl (Yv.assign rfl).yl ?_
                  refine SOps.nil ?_
                  refine Run.seq ?_
                  refine Run.ops ?_
                  refine SOps.st rfl rfl (Yv.loadBs (i := 4) lay27 rfl rfl rfl rfl).yl ?_
                  refine SOps.st rfl rfl (Yv.move rfl).yl ?_
                  refine SOps.one rfl (One.callMut (i := 5) (H' := [_, _, _, _, _, _, _, _, _, _, _, _, _, _]) rfl callable38 (.cons rfl (.cons rfl (.nil))) rfl (fun w' hw' => markConvoy_spec (hw'.ent _ (List.mem_of_getElem? (i := 5) rfl)) (by omega) (by omega) (by omega)) rfl ?_)
                  refine SOps.st rfl rfl (Yv.assign rfl).yl ?_
                  refine SOps.nil ?_
                  refine Run.seq ?_
                  refine Run.seq ?_
                  refine Run.quiet (by intro h; cases h) ?_
                  refine QOps.st rfl rfl (Yv.move rfl).yl ?_
                  refine QOps.st rfl rfl (Yv.lss rfl rfl).yl ?_
                  refine QOps.st rfl rfl (Yv.move rfl).yl ?_
                  refine' QOps.or [_, _, _, _] _ (.tmp 76) rfl rfl rfl rfl rfl rfl (fun hg2 => ?_) ?_
                  rotate_left
                  · try replace hg2 := of_decide_eq_false hg2
                    refine QOps.st rfl rfl (Yv.loadBs (i := 2) lay27 rfl rfl rfl rfl).yl ?_
                    refine QOps.st rfl rfl (Yv.loadBs (i := 8) lay27 rfl rfl rfl rfl).yl ?_
                    refine QOps.st rfl rfl (Yl.call callable19 (.cons rfl (.cons rfl (.nil))) (fun w' hw' => eqConvoy_spec ((Rd.row (i := 3) rfl) w' hw') ((Rd.row (i := 9) rfl) w' hw'))) ?_
                    refine QOps.st rfl rfl (Yv.not rfl).yl ?_
                    exact QOps.nil rfl
                  refine QOps.st rfl rfl (Yv.move rfl).yl ?_
                  refine' QOps.or [_, _, _] _ (.tmp 81) rfl rfl rfl rfl rfl rfl (fun hg3 => ?_) ?_
                  rotate_left
                  · try replace hg3 := of_decide_eq_false hg3
                    refine QOps.st rfl rfl (Yv.move rfl).yl ?_
                    refine QOps.st rfl rfl (Yv.move rfl).yl ?_
                    refine QOps.st rfl rfl (Yv.neB bool4 rfl rfl).yl ?_
                    exact QOps.nil rfl
                  refine QOps.nil ?_
                  refine Run.cond rfl (fun hc6 => ?_) (fun hc6 => ?_)
                  · exfalso
                    first | (simp at hc6; done) | (simp at hc6; omega) | omega
                  · try replace hc6 := of_decide_eq_false hc6
                    refine Run.skip ?_
                    refine Run.seq ?_
                    refine Run.quiet (by intro h; cases h) ?_
                    refine QOps.st rfl rfl (Yv.assign rfl).yl ?_
                    refine QOps.nil ?_
                    refine Run.seq ?_
                    refine Run.ops ?_
                    refine SOps.st rfl rfl (Yv.loadBs (i := 2) lay27 rfl rfl rfl rfl).yl ?_
                    refine SOps.st rfl rfl (Yv.move rfl).yl ?_
                    refine SOps.one rfl (One.callMut (i := 3) (H' := [_, _, _, _, _, _, _, _, _, _, _, _, _, _]) rfl callable38 (.cons rfl (.cons rfl (.nil))) rfl (fun w' hw' => markConvoy_spec (hw'.ent _ (List.mem_of_getElem? (i := 3) rfl)) (by omega) (by omega) (by omega)) rfl ?_)
                    refine SOps.st rfl rfl (Yv.assign rfl).yl ?_
                    refine SOps.nil ?_
                    refine Run.seq ?_
                    refine Run.quiet (by intro h; cases h) ?_
                    refine QOps.st rfl rfl (Yv.assign rfl).yl ?_
                    refine QOps.nil ?_
                    refine Run.seq ?_
                    refine Run.quiet (by intro h; cases h) ?_
                    refine QOps.st rfl rfl (Yv.loadBs (i := 2) lay27 rfl rfl rfl rfl).yl ?_
                    refine QOps.st rfl rfl (Yv.move rfl).yl ?_
                    refine QOps.st rfl rfl (Yl.call callable39 (.cons rfl (.cons rfl (.nil))) (fun w' hw' => heldConvoy_spec ((Rd.row (i := 3) rfl) w' hw') (by omega) (by omega) (by omega))) ?_
                    refine QOps.st rfl rfl (Yv.assign rfl).yl ?_
                    refine QOps.nil ?_
                    refine Run.seq ?_
                    refine Run.seq ?_
                    refine Run.quiet (by intro h; cases h) ?_
                    refine QOps.st rfl rfl (Yv.move rfl).yl ?_
                    refine QOps.st rfl rfl (Yv.lss rfl rfl).yl ?_
                    refine QOps.nil ?_
                    refine Run.cond rfl (fun hc7 => ?_) (fun hc7 => ?_)
                    · exfalso
                      first | (simp at hc7; done) | (simp at hc7; omega) | omega
                    · try replace hc7 := of_decide_eq_false hc7
                      refine Run.skip ?_
                      refine Run.seq ?_
                      refine Run.seq ?_
                      refine Run.quiet (by intro h; cases h) ?_
                      refine QOps.st rfl rfl (Yv.move rfl).yl ?_
                      refine QOps.st rfl rfl (Yv.move rfl).yl ?_
                      refine QOps.st rfl rfl (Yv.neI rfl rfl).yl ?_
                      refine QOps.nil ?_
                      refine Run.cond rfl (fun hc8 => ?_) (fun hc8 => ?_)
                      · exfalso
                        first | (simp at hc8; done) | (simp at hc8; omega) | omega
                      · try replace hc8 := of_decide_eq_false hc8
                        refine Run.skip ?_
                        refine Run.seq ?_
                        refine Run.draws (fun H => H) (m := 11) (listed := #[false, false, false, false, false, false, false, false, false, false, false]) (by kernel_rfl) rfl rfl ?_
                        refine DOps.take (listed' := #[true, false, false, false, false, false, false, false, false, false, false]) 0 rfl (by kernel_rfl) rfl (List.Sublist.refl _) rfl rfl (Yv.loadBs (i := 13) lay24 rfl rfl rfl rfl) ?_
                        refine DOps.take (listed' := #[true, false, true, false, false, false, false, false, false, false, false]) 2 rfl (by kernel_rfl) rfl (List.Sublist.refl _) rfl rfl (Yv.loadBs (i := 12) lay24 rfl rfl rfl rfl) ?_
                        refine DOps.fork2 (l1 := #[true, true, true, false, false, false, false, false, false, false, false]) (l2 := #[true, false, true, false, false, false, false, false, true, false, false]) 1 8 rfl rfl (by kernel_rfl) rfl rfl rfl rfl ?_ ?_
                        ·
                          refine One.callRow rfl callable17 (.cons rfl (.nil)) (fun w' hw' => toConvoy_spec ((Rd.arg hs) w' hw') (by omega)) (fun A9 c9 => ?_)
                          refine ⟨(List.Sublist.cons _ (List.Sublist.refl _)), ?_⟩
                          refine DOps.fork2 (l1 := #[true, true, true, true, false, false, false, false, false, false, false]) (l2 := #[true, true, true, false, false, false, false, false, true, false, false]) 3 8 rfl rfl (by kernel_rfl) rfl rfl rfl rfl ?_ ?_
                          ·
                            refine One.callRow rfl callable17 (.cons rfl (.nil)) (fun w' hw' => toConvoy_spec ((Rd.arg hs2) w' hw') (by omega)) (fun A10 c10 => ?_)
                            refine ⟨(List.Sublist.cons _ (List.Sublist.cons _ (List.Sublist.refl _))), ?_⟩
                            refine DOps.fork2 (l1 := #[true, true, true, true, true, false, false, false, false, false, false]) (l2 := #[true, true, true, true, false, false, false, false, true, false, false]) 4 8 rfl rfl (by kernel_rfl) rfl rfl rfl rfl ?_ ?_
                            ·
                              refine One.callRow rfl callable37 (.cons rfl (.cons rfl (.nil))) (fun w' hw' => JoinConvoys_spec ((Rd.row (i := 1) rfl) w' hw') ((Rd.row (i := 0) rfl) w' hw') (by omega) (by omega)) (fun A11 c11 => ?_)
                              refine ⟨(List.Sublist.cons _ (List.Sublist.cons _ (List.Sublist.cons _ (List.Sublist.refl _)))), ?_⟩
                              refine DOps.take (listed' := #[true, true, true, true, true, true, false, false, false, false, false]) 5 rfl (by kernel_rfl) rfl (List.Sublist.cons _ (List.Sublist.cons _ (List.Sublist.cons _ (List.Sublist.refl _)))) rfl rfl (Yv.move rfl) ?_
                              refine DOps.take (listed' := #[true, true, true, true, true, true, true, false, false, false, false]) 6 rfl (by kernel_rfl) rfl (List.Sublist.cons _ (List.Sublist.cons _ (List.Sublist.cons _ (List.Sublist.refl _)))) rfl rfl (Yv.extract rfl rfl) ?_
                              refine DOps.take (listed' := #[true, true, true, true, true, true, true, true, false, false, false]) 7 rfl (by kernel_rfl) rfl (List.Sublist.cons _ (List.Sublist.cons _ (List.Sublist.cons _ (List.Sublist.refl _)))) rfl rfl (Yv.extract rfl rfl) ?_
                              refine DOps.only (listed' := #[true, true, true, true, true, true, true, true, true, false, false]) 8 rfl (by kernel_rfl) rfl rfl ?_
                              refine One.alloc rfl zero27 (fun b7 => ?_)
                              refine ⟨(List.Sublist.cons _ (List.Sublist.cons _ (List.Sublist.cons _ (List.Sublist.cons _ (List.Sublist.refl _))))), ?_⟩
                              refine DOps.only (listed' := #[true, true, true, true, true, true, true, true, true, true, false]) 9 rfl (by kernel_rfl) rfl rfl ?_
                              refine One.store (i := 0) (off := 0) (vs := [_, _]) (cs' := [_, _]) (H' := [_, _, _, _, _, _, _, _, _, _, _, _, _, _, _, _, _, _]) lay27 rfl rfl rfl rfl rfl rfl rfl rfl rfl rfl ?_
                              refine ⟨(List.Sublist.cons _ (List.Sublist.cons _ (List.Sublist.cons _ (List.Sublist.cons _ (List.Sublist.refl _))))), ?_⟩
                              refine DOps.take (listed' := #[true, true, true, true, true, true, true, true, true, true, true]) 10 rfl (by kernel_rfl) rfl (List.Sublist.cons _ (List.Sublist.cons _ (List.Sublist.cons _ (List.Sublist.cons _ (List.Sublist.refl _))))) rfl rfl (Yv.assign rfl) ?_
                              refine DOps.done (by kernel_rfl) ?_
                              refine Run.seq ?_
                              refine Run.seq ?_
                              refine Run.quiet (by intro h; cases h) ?_
                              refine QOps.st rfl rfl (Yv.loadBs (i := 0) lay27 rfl rfl rfl rfl).yl ?_
                              refine QOps.st rfl rfl (Yv.loadBs (i := 12) lay27 rfl rfl rfl rfl).yl ?_
                              refine QOps.st rfl rfl (Yl.call callable19 (.cons rfl (.cons rfl (.nil))) (fun w' hw' => eqConvoy_spec ((Rd.row (i := 1) rfl) w' hw') ((Rd.row (i := 13) rfl) w' hw'))) ?_
                              refine QOps.st rfl rfl (Yv.not rfl).yl ?_
                              refine QOps.st rfl rfl (Yv.move rfl).yl ?_
                              refine' QOps.or [_, _, _] _ (.tmp 109) rfl rfl rfl rfl rfl rfl (fun hg4 => ?_) ?_
                              rotate_left
                              · try replace hg4 := of_decide_eq_false hg4
                                refine QOps.st rfl rfl (Yv.move rfl).yl ?_
                                refine QOps.st rfl rfl (Yv.move rfl).yl ?_
                                refine QOps.st rfl rfl (Yv.neB bool4 rfl rfl).yl ?_
                                exact QOps.nil rfl
                              refine QOps.nil ?_
                              refine Run.cond rfl (fun hc9 => ?_) (fun hc9 => ?_)
                              · exfalso
                                first | (simp at hc9; done) | (simp at hc9; omega) | omega
                              · try replace hc9 := of_decide_eq_false hc9
                                refine Run.skip ?_
                                refine Run.seq ?_
                                refine Run.quiet (by intro h; cases h) ?_
                                refine QOps.st rfl rfl (Yv.assign rfl).yl ?_
                                refine QOps.nil ?_
                                refine Run.seq ?_
                                refine Run.quiet (by intro h; cases h) ?_
                                refine QOps.st rfl rfl (Yv.loadBs (i := 6) lay27 rfl rfl rfl rfl).yl ?_
                                refine QOps.st rfl rfl (Yv.move rfl).yl ?_
                                refine QOps.st rfl rfl (Yl.call callable39 (.cons rfl (.cons rfl (.nil))) (fun w' hw' => heldConvoy_spec ((Rd.row (i := 7) rfl) w' hw') (by omega) (by omega) (by omega))) ?_
                                refine QOps.st rfl rfl (Yv.assign rfl).yl ?_
                                refine QOps.nil ?_
                                refine Run.seq ?_
                                refine Run.seq ?_
                                refine Run.quiet (by intro h; cases h) ?_
                                refine QOps.st rfl rfl (Yv.move rfl).yl ?_
                                refine QOps.st rfl rfl (Yv.lss rfl rfl).yl ?_
                                refine QOps.nil ?_
                                refine Run.cond rfl (fun hc10 => ?_) (fun hc10 => ?_)
                                · exfalso
                                  first | (simp at hc10; done) | (simp at hc10; omega) | omega
                                · try replace hc10 := of_decide_eq_false hc10
                                  refine Run.skip ?_
                                  refine Run.seq ?_
                                  refine Run.seq ?_
                                  refine Run.quiet (by intro h; cases h) ?_
                                  refine QOps.st rfl rfl (Yv.move rfl).yl ?_
                                  refine QOps.st rfl rfl (Yv.move rfl).yl ?_
                                  refine QOps.st rfl rfl (Yv.neI rfl rfl).yl ?_
                                  refine QOps.nil ?_
                                  refine Run.cond rfl (fun hc11 => ?_) (fun hc11 => ?_)
                                  · exfalso
                                    first | (simp at hc11; done) | (simp at hc11; omega) | omega
                                  · try replace hc11 := of_decide_eq_false hc11
                                    refine Run.skip ?_
                                    refine Run.seq ?_
                                    refine Run.quiet (by intro h; cases h) ?_
                                    refine QOps.st rfl rfl (Yv.assign rfl).yl ?_
                                    refine QOps.nil ?_
                                    refine Run.ret ?_
                                    refine retQ.of (.inr rfl) rfl (.tmp rfl .nil) (fun w' hw' => ?_)
                                    refine ⟨?_, hw'.bel.below⟩
                                    exact rfl
                            ·
                              refine One.alloc rfl zero27 (fun b7 => ?_)
                              refine ⟨(List.Sublist.cons _ (List.Sublist.cons _ (List.Sublist.cons _ (List.Sublist.refl _)))), ?_⟩
                              refine DOps.only (listed' := #[true, true, true, true, true, false, false, false, true, false, false]) 4 rfl (by kernel_rfl) rfl rfl ?_
                              refine One.callRow rfl callable37 (.cons rfl (.cons rfl (.nil))) (fun w' hw' => JoinConvoys_spec ((Rd.row (i := 2) rfl) w' hw') ((Rd.row (i := 1) rfl) w' hw') (by omega) (by omega)) (fun A11 c11 => ?_)
                              refine ⟨(List.Sublist.cons _ (List.Sublist.cons _ (List.Sublist.cons _ (List.Sublist.cons _ (List.Sublist.refl _))))), ?_⟩
                              refine DOps.take (listed' := #[true, true, true, true, true, true, false, false, true, false, false]) 5 rfl (by kernel_rfl) rfl (List.Sublist.cons _ (List.Sublist.cons _ (List.Sublist.cons _ (List.Sublist.cons _ (List.Sublist.refl _))))) rfl rfl (Yv.move rfl) ?_
                              refine DOps.take (listed' := #[true, true, true, true, true, true, true, false, true, false, false]) 6 rfl (by kernel_rfl) rfl (List.Sublist.cons _ (List.Sublist.cons _ (List.Sublist.cons _ (List.Sublist.cons _ (List.Sublist.refl _))))) rfl rfl (Yv.extract rfl rfl) ?_
                              refine DOps.take (listed' := #[true, true, true, true, true, true, true, true, true, false, false]) 7 rfl (by kernel_rfl) rfl (List.Sublist.cons _ (List.Sublist.cons _ (List.Sublist.cons _ (List.Sublist.cons _ (List.Sublist.refl _))))) rfl rfl (Yv.extract rfl rfl) ?_
                              refine DOps.only (listed' := #[true, true, true, true, true, true, true, true, true, true, false]) 9 rfl (by kernel_rfl) rfl rfl ?_
                              refine One.store (i := 1) (off := 0) (vs := [_, _]) (cs' := [_, _]) (H' := [_, _, _, _, _, _, _, _, _, _, _, _, _, _, _, _, _, _]) lay27 rfl rfl rfl rfl rfl rfl rfl rfl rfl rfl ?_
                              refine ⟨(List.Sublist.cons _ (List.Sublist.cons _ (List.Sublist.cons _ (List.Sublist.cons _ (List.Sublist.refl _))))), ?_⟩
                              refine DOps.take (listed' := #[true, true, true, true, true, true, true, true, true, true, true]) 10 rfl (by kernel_rfl) rfl (List.Sublist.cons _ (List.Sublist.cons _ (List.Sublist.cons _ (List.Sublist.cons _ (List.Sublist.refl _))))) rfl rfl (Yv.assign rfl) ?_
                              refine DOps.done (by kernel_rfl) ?_
                              refine Run.seq ?_
                              refine Run.seq ?_
                              refine Run.quiet (by intro h; cases h) ?_
                              refine QOps.st rfl rfl (Yv.loadBs (i := 1) lay27 rfl rfl rfl rfl).yl ?_
                              refine QOps.st rfl rfl (Yv.loadBs (i := 12) lay27 rfl rfl rfl rfl).yl ?_
                              refine QOps.st rfl rfl (Yl.call callable19 (.cons rfl (.cons rfl (.nil))) (fun w' hw' => eqConvoy_spec ((Rd.row (i := 0) rfl) w' hw') ((Rd.row (i := 13) rfl) w' hw'))) ?_
                              refine QOps.st rfl rfl (Yv.not rfl).yl ?_
                              refine QOps.st rfl rfl (Yv.move rfl).yl ?_
                              refine' QOps.or [_, _, _] _ (.tmp 109) rfl rfl rfl rfl rfl rfl (fun hg4 => ?_) ?_
                              rotate_left
                              · try replace hg4 := of_decide_eq_false hg4
                                refine QOps.st rfl rfl (Yv.move rfl).yl ?_
                                refine QOps.st rfl rfl (Yv.move rfl).yl ?_
                                refine QOps.st rfl rfl (Yv.neB bool4 rfl rfl).yl ?_
                                exact QOps.nil rfl
                              refine QOps.nil ?_
                              refine Run.cond rfl (fun hc9 => ?_) (fun hc9 => ?_)
                              · exfalso
                                first | (simp at hc9; done) | (simp at hc9; omega) | omega
                              · try replace hc9 := of_decide_eq_false hc9
                                refine Run.skip ?_
                                refine Run.seq ?_
                                refine Run.quiet (by intro h; cases h) ?_
                                refine QOps.st rfl rfl (Yv.assign rfl).yl ?_
                                refine QOps.nil ?_
                                refine Run.seq ?_
                                refine Run.quiet (by intro h; cases h) ?_
                                refine QOps.st rfl rfl (Yv.loadBs (i := 6) lay27 rfl rfl rfl rfl).yl ?_
                                refine QOps.st rfl rfl (Yv.move rfl).yl ?_
                                refine QOps.st rfl rfl (Yl.call callable39 (.cons rfl (.cons rfl (.nil))) (fun w' hw' => heldConvoy_spec ((Rd.row (i := 7) rfl) w' hw') (by omega) (by omega) (by omega))) ?_
                                refine QOps.st rfl rfl (Yv.assign rfl).yl ?_
                                refine QOps.nil ?_
                                refine Run.seq ?_
                                refine Run.seq ?_
                                refine Run.quiet (by intro h; cases h) ?_
                                refine QOps.st rfl rfl (Yv.move rfl).yl ?_
                                refine QOps.st rfl rfl (Yv.lss rfl rfl).yl ?_
                                refine QOps.nil ?_
                                refine Run.cond rfl (fun hc10 => ?_) (fun hc10 => ?_)
                                · exfalso
                                  first | (simp at hc10; done) | (simp at hc10; omega) | omega
                                · try replace hc10 := of_decide_eq_false hc10
                                  refine Run.skip ?_
                                  refine Run.seq ?_
                                  refine Run.seq ?_
                                  refine Run.quiet (by intro h; cases h) ?_
                                  refine QOps.st rfl rfl (Yv.move rfl).yl ?_
                                  refine QOps.st rfl rfl (Yv.move rfl).yl ?_
                                  refine QOps.st rfl rfl (Yv.neI rfl rfl).yl ?_
                                  refine QOps.nil ?_
                                  refine Run.cond rfl (fun hc11 => ?_) (fun hc11 => ?_)
                                  · exfalso
                                    first | (simp at hc11; done) | (simp at hc11; omega) | omega
                                  · try replace hc11 := of_decide_eq_false hc11
                                    refine Run.skip ?_
                                    refine Run.seq ?_
                                    refine Run.quiet (by intro h; cases h) ?_
                                    refine QOps.st rfl rfl (Yv.assign rfl).yl ?_
                                    refine QOps.nil ?_
                                    refine Run.ret ?_
                                    refine retQ.of (.inr rfl) rfl (.tmp rfl .nil) (fun w' hw' => ?_)
                                    refine ⟨?_, hw'.bel.below⟩
                                    exact rfl
                          ·
                            refine One.alloc rfl zero27 (fun b7 => ?_)
                            refine ⟨(List.Sublist.cons _ (List.Sublist.cons _ (List.Sublist.refl _))), ?_⟩
                            refine DOps.only (listed' := #[true, true, true, true, false, false, false, false, true, false, false]) 3 rfl (by kernel_rfl) rfl rfl ?_
                            refine One.callRow rfl callable17 (.cons rfl (.nil)) (fun w' hw' => toConvoy_spec ((Rd.arg hs2) w' hw') (by omega)) (fun A10 c10 => ?_)
                            refine ⟨(List.Sublist.cons _ (List.Sublist.cons _ (List.Sublist.cons _ (List.Sublist.refl _)))), ?_⟩
                            refine DOps.only (listed' := #[true, true, true, true, true, false, false, false, true, false, false]) 4 rfl (by kernel_rfl) rfl rfl ?_
                            refine One.callRow rfl callable37 (.cons rfl (.cons rfl (.nil))) (fun w' hw' => JoinConvoys_spec ((Rd.row (i := 2) rfl) w' hw') ((Rd.row (i := 0) rfl) w' hw') (by omega) (by omega)) (fun A11 c11 => ?_)
                            refine ⟨(List.Sublist.cons _ (List.Sublist.cons _ (List.Sublist.cons _ (List.Sublist.cons _ (List.Sublist.refl _))))), ?_⟩
                            refine DOps.take (listed' := #[true, true, true, true, true, true, false, false, true, false, false]) 5 rfl (by kernel_rfl) rfl (List.Sublist.cons _ (List.Sublist.cons _ (List.Sublist.cons _ (List.Sublist.cons _ (List.Sublist.refl _))))) rfl rfl (Yv.move rfl) ?_
                            refine DOps.take (listed' := #[true, true, true, true, true, true, true, false, true, false, false]) 6 rfl (by kernel_rfl) rfl (List.Sublist.cons _ (List.Sublist.cons _ (List.Sublist.cons _ (List.Sublist.cons _ (List.Sublist.refl _))))) rfl rfl (Yv.extract rfl rfl) ?_
                            refine DOps.take (listed' := #[true, true, true, true, true, true, true, true, true, false, false]) 7 rfl (by kernel_rfl) rfl (List.Sublist.cons _ (List.Sublist.cons _ (List.Sublist.cons _ (List.Sublist.cons _ (List.Sublist.refl _))))) rfl rfl (Yv.extract rfl rfl) ?_
                            refine DOps.only (listed' := #[true, true, true, true, true, true, true, true, true, true, false]) 9 rfl (by kernel_rfl) rfl rfl ?_
                            refine One.store (i := 2) (off := 0) (vs := [_, _]) (cs' := [_, _]) (H' := [_, _, _, _, _, _, _, _, _, _, _, _, _, _, _, _, _, _]) lay27 rfl rfl rfl rfl rfl rfl rfl rfl rfl rfl ?_
                            refine ⟨(List.Sublist.cons _ (List.Sublist.cons _ (List.Sublist.cons _ (List.Sublist.cons _ (List.Sublist.refl _))))), ?_⟩
                            refine DOps.take (listed' := #[true, true, true, true, true, true, true, true, true, true, true]) 10 rfl (by kernel_rfl) rfl (List.Sublist.cons _ (List.Sublist.cons _ (List.Sublist.cons _ (List.Sublist.cons _ (List.Sublist.refl _))))) rfl rfl (Yv.assign rfl) ?_
                            refine DOps.done (by kernel_rfl) ?_
                            refine Run.seq ?_
                            refine Run.seq ?_
                            refine Run.quiet (by intro h; cases h) ?_
                            refine QOps.st rfl rfl (Yv.loadBs (i := 2) lay27 rfl rfl rfl rfl).yl ?_
                            refine QOps.st rfl rfl (Yv.loadBs (i := 12) lay27 rfl rfl rfl rfl).yl ?_
                            refine QOps.st rfl rfl (Yl.call callable19 (.cons rfl (.cons rfl (.nil))) (fun w' hw' => eqConvoy_spec ((Rd.row (i := 0) rfl) w' hw') ((Rd.row (i := 13) rfl) w' hw'))) ?_
                            refine QOps.st rfl rfl (Yv.not rfl).yl ?_
                            refine QOps.st rfl rfl (Yv.move rfl).yl ?_
                            refine' QOps.or [_, _, _] _ (.tmp 109) rfl rfl rfl rfl rfl rfl (fun hg4 => ?_) ?_
                            rotate_left
                            · try replace hg4 := of_decide_eq_false hg4
                              refine QOps.st rfl rfl (Yv.move rfl).yl ?_
                              refine QOps.st rfl rfl (Yv.move rfl).yl ?_
                              refine QOps.st rfl rfl (Yv.neB bool4 rfl rfl).yl ?_
                              exact QOps.nil rfl
                            refine QOps.nil ?_
                            refine Run.cond rfl (fun hc9 => ?_) (fun hc9 => ?_)
                            · exfalso
                              first | (simp at hc9; done) | (simp at hc9; omega) | omega
                            · try replace hc9 := of_decide_eq_false hc9
                              refine Run.skip ?_
                              refine Run.seq ?_
                              refine Run.quiet (by intro h; cases h) ?_
                              refine QOps.st rfl rfl (Yv.assign rfl).yl ?_
                              refine QOps.nil ?_
                              refine Run.seq ?_
                              refine Run.quiet (by intro h; cases h) ?_
                              refine QOps.st rfl rfl (Yv.loadBs (i := 6) lay27 rfl rfl rfl rfl).yl ?_
                              refine QOps.st rfl rfl (Yv.move rfl).yl ?_
                              refine QOps.st rfl rfl (Yl.call callable39 (.cons rfl (.cons rfl (.nil))) (fun w' hw' => heldConvoy_spec ((Rd.row (i := 7) rfl) w' hw') (by omega) (by omega) (by omega))) ?_
                              refine QOps.st rfl rfl (Yv.assign rfl).yl ?_
                              refine QOps.nil ?_
                              refine Run.seq ?_
                              refine Run.seq ?_
                              refine Run.quiet (by intro h; cases h) ?_
                              refine QOps.st rfl rfl (Yv.move rfl).yl ?_
                              refine QOps.st rfl rfl (Yv.lss rfl rfl).yl ?_
                              refine QOps.nil ?_
                              refine Run.cond rfl (fun hc10 => ?_) (fun hc10 => ?_)
                              · exfalso
                                first | (simp at hc10; done) | (simp at hc10; omega) | omega
                              · try replace hc10 := of_decide_eq_false hc10
                                refine Run.skip ?_
                                refine Run.seq ?_
                                refine Run.seq ?_
                                refine Run.quiet (by intro h; cases h) ?_
                                refine QOps.st rfl rfl (Yv.move rfl).yl ?_
                                refine QOps.st rfl rfl (Yv.move rfl).yl ?_
                                refine QOps.st rfl rfl (Yv.neI rfl rfl).yl ?_
                                refine QOps.nil ?_
                                refine Run.cond rfl (fun hc11 => ?_) (fun hc11 => ?_)
                                · exfalso
                                  first | (simp at hc11; done) | (simp at hc11; omega) | omega
                                · try replace hc11 := of_decide_eq_false hc11
                                  refine Run.skip ?_
                                  refine Run.seq ?_
                                  refine Run.quiet (by intro h; cases h) ?_
                                  refine QOps.st rfl rfl (Yv.assign rfl).yl ?_
                                  refine QOps.nil ?_
                                  refine Run.ret ?_
                                  refine retQ.of (.inr rfl) rfl (.tmp rfl .nil) (fun w' hw' => ?_)
                                  refine ⟨?_, hw'.bel.below⟩
                                  exact rfl
                        ·
                          refine One.alloc rfl zero27 (fun b7 => ?_)
                          refine ⟨(List.Sublist.cons _ (List.Sublist.refl _)), ?_⟩
                          refine DOps.only (listed' := #[true, true, true, false, false, false, false, false, true, false, false]) 1 rfl (by kernel_rfl) rfl rfl ?_
                          refine One.callRow rfl callable17 (.cons rfl (.nil)) (fun w' hw' => toConvoy_spec ((Rd.arg hs) w' hw') (by omega)) (fun A9 c9 => ?_)
                          refine ⟨(List.Sublist.cons _ (List.Sublist.cons _ (List.Sublist.refl _))), ?_⟩
                          refine DOps.only (listed' := #[true, true, true, true, false, false, false, false, true, false, false]) 3 rfl (by kernel_rfl) rfl rfl ?_
                          refine One.callRow rfl callable17 (.cons rfl (.nil)) (fun w' hw' => toConvoy_spec ((Rd.arg hs2) w' hw') (by omega)) (fun A10 c10 => ?_)
                          refine ⟨(List.Sublist.cons _ (List.Sublist.cons _ (List.Sublist.cons _ (List.Sublist.refl _)))), ?_⟩
                          refine DOps.only (listed' := #[true, true, true, true, true, false, false, false, true, false, false]) 4 rfl (by kernel_rfl) rfl rfl ?_
                          refine One.callRow rfl callable37 (.cons rfl (.cons rfl (.nil))) (fun w' hw' => JoinConvoys_spec ((Rd.row (i := 1) rfl) w' hw') ((Rd.row (i := 0) rfl) w' hw') (by omega) (by omega)) (fun A11 c11 => ?_)
                          refine ⟨(List.Sublist.cons _ (List.Sublist.cons _ (List.Sublist.cons _ (List.Sublist.cons _ (List.Sublist.refl _))))), ?_⟩
                          refine DOps.take (listed' := #[true, true, true, true, true, true, false, false, true, false, false]) 5 rfl (by kernel_rfl) rfl (List.Sublist.cons _ (List.Sublist.cons _ (List.Sublist.cons _ (List.Sublist.cons _ (List.Sublist.refl _))))) rfl rfl (Yv.move rfl) ?_
                          refine DOps.take (listed' := #[true, true, true, true, true, true, true, false, true, false, false]) 6 rfl (by kernel_rfl) rfl (List.Sublist.cons _ (List.Sublist.cons _ (List.Sublist.cons _ (List.Sublist.cons _ (List.Sublist.refl _))))) rfl rfl (Yv.extract rfl rfl) ?_
                          refine DOps.take (listed' := #[true, true, true, true, true, true, true, true, true, false, false]) 7 rfl (by kernel_rfl) rfl (List.Sublist.cons _ (List.Sublist.cons _ (List.Sublist.cons _ (List.Sublist.cons _ (List.Sublist.refl _))))) rfl rfl (Yv.extract rfl rfl) ?_
                          refine DOps.only (listed' := #[true, true, true, true, true, true, true, true, true, true, false]) 9 rfl (by kernel_rfl) rfl rfl ?_
                          refine One.store (i := 3) (off := 0) (vs := [_, _]) (cs' := [_, _]) (H' := [_, _, _, _, _, _, _, _, _, _, _, _, _, _, _, _, _, _]) lay27 rfl rfl rfl rfl rfl rfl rfl rfl rfl rfl ?_
                          refine ⟨(List.Sublist.cons _ (List.Sublist.cons _ (List.Sublist.cons _ (List.Sublist.cons _ (List.Sublist.refl _))))), ?_⟩
                          refine DOps.take (listed' := #[true, true, true, true, true, true, true, true, true, true, true]) 10 rfl (by kernel_rfl) rfl (List.Sublist.cons _ (List.Sublist.cons _ (List.Sublist.cons _ (List.Sublist.cons _ (List.Sublist.refl _))))) rfl rfl (Yv.assign rfl) ?_
                          refine DOps.done (by kernel_rfl) ?_
                          refine Run.seq ?_
                          refine Run.seq ?_
                          refine Run.quiet (by intro h; cases h) ?_
                          refine QOps.st rfl rfl (Yv.loadBs (i := 3) lay27 rfl rfl rfl rfl).yl ?_
                          refine QOps.st rfl rfl (Yv.loadBs (i := 12) lay27 rfl rfl rfl rfl).yl ?_
                          refine QOps.st rfl rfl (Yl.call callable19 (.cons rfl (.cons rfl (.nil))) (fun w' hw' => eqConvoy_spec ((Rd.row (i := 0) rfl) w' hw') ((Rd.row (i := 13) rfl) w' hw'))) ?_
                          refine QOps.st rfl rfl (Yv.not rfl).yl ?_
                          refine QOps.st rfl rfl (Yv.move rfl).yl ?_
                          refine' QOps.or [_, _, _] _ (.tmp 109) rfl rfl rfl rfl rfl rfl (fun hg4 => ?_) ?_
                          rotate_left
                          · try replace hg4 := of_decide_eq_false hg4
                            refine QOps.st rfl rfl (Yv.move rfl).yl ?_
                            refine QOps.st rfl rfl (Yv.move rfl).yl ?_
                            refine QOps.st rfl rfl (Yv.neB bool4 rfl rfl).yl ?_
                            exact QOps.nil rfl
                          refine QOps.nil ?_
                          refine Run.cond rfl (fun hc9 => ?_) (fun hc9 => ?_)
                          · exfalso
                            first | (simp at hc9; done) | (simp at hc9; omega) | omega
                          · try replace hc9 := of_decide_eq_false hc9
                            refine Run.skip ?_
                            refine Run.seq ?_
                            refine Run.quiet (by intro h; cases h) ?_
                            refine QOps.st rfl rfl (Yv.assign rfl).yl ?_
                            refine QOps.nil ?_
                            refine Run.seq ?_
                            refine Run.quiet (by intro h; cases h) ?_
                            refine QOps.st rfl rfl (Yv.loadBs (i := 6) lay27 rfl rfl rfl rfl).yl ?_
                            refine QOps.st rfl rfl (Yv.move rfl).yl ?_
                            refine QOps.st rfl rfl (Yl.call callable39 (.cons rfl (.cons rfl (.nil))) (fun w' hw' => heldConvoy_spec ((Rd.row (i := 7) rfl) w' hw') (by omega) (by omega) (by omega))) ?_
                            refine QOps.st rfl rfl (Yv.assign rfl).yl ?_
                            refine QOps.nil ?_
                            refine Run.seq ?_
                            refine Run.seq ?_
                            refine Run.quiet (by intro h; cases h) ?_
                            refine QOps.st rfl rfl (Yv.move rfl).yl ?_
                            refine QOps.st rfl rfl (Yv.lss rfl rfl).yl ?_
                            refine QOps.nil ?_
                            refine Run.cond rfl (fun hc10 => ?_) (fun hc10 => ?_)
                            · exfalso
                              first | (simp at hc10; done) | (simp at hc10; omega) | omega
                            · try replace hc10 := of_decide_eq_false hc10
                              refine Run.skip ?_
                              refine Run.seq ?_
                              refine Run.seq ?_
                              refine Run.quiet (by intro h; cases h) ?_
                              refine QOps.st rfl rfl (Yv.move rfl).yl ?_
                              refine QOps.st rfl rfl (Yv.move rfl).yl ?_
                              refine QOps.st rfl rfl (Yv.neI rfl rfl).yl ?_
                              refine QOps.nil ?_
                              refine Run.cond rfl (fun hc11 => ?_) (fun hc11 => ?_)
                              · exfalso
                                first | (simp at hc11; done) | (simp at hc11; omega) | omega
                              · try replace hc11 := of_decide_eq_false hc11
                                refine Run.skip ?_
                                refine Run.seq ?_
                                refine Run.quiet (by intro h; cases h) ?_
                                refine QOps.st rfl rfl (Yv.assign rfl).yl ?_
                                refine QOps.nil ?_
                                refine Run.ret ?_
                                refine retQ.of (.inr rfl) rfl (.tmp rfl .nil) (fun w' hw' => ?_)
                                refine ⟨?_, hw'.bel.below⟩
                                exact rfl
          ·
            refine One.alloc rfl zero27 (fun b3 => ?_)
            refine ⟨(List.Sublist.cons _ (List.Sublist.cons _ (List.Sublist.cons _ (List.Sublist.refl _)))), ?_⟩
            refine DOps.only (listed' := #[true, true, true, true, true, false, false, false, true, false, false]) 4 rfl (by kernel_rfl) rfl rfl ?_
            refine One.callRow rfl callable36 (.cons rfl (.cons rfl (.nil))) (fun w' hw' => sJoinConvoys_spec ((Rd.row (i := 2) rfl) w' hw') ((Rd.row (i := 1) rfl) w' hw') (by omega) (by omega)) (fun A3 c3 => ?_)
            refine ⟨(List.Sublist.cons _ (List.Sublist.cons _ (List.Sublist.cons _ (List.Sublist.cons _ (List.Sublist.refl _))))), ?_⟩
            refine DOps.take (listed' := #[true, true, true, true, true, true, false, false, true, false, false]) 5 rfl (by kernel_rfl) rfl (List.Sublist.cons _ (List.Sublist.cons _ (List.Sublist.cons _ (List.Sublist.cons _ (List.Sublist.refl _))))) rfl rfl (Yv.move rfl) ?_
            refine DOps.take (listed' := #[true, true, true, true, true, true, true, false, true, false, false]) 6 rfl (by kernel_rfl) rfl (List.Sublist.cons _ (List.Sublist.cons _ (List.Sublist.cons _ (List.Sublist.cons _ (List.Sublist.refl _))))) rfl rfl (Yv.extract rfl rfl) ?_
            refine DOps.take (listed' := #[true, true, true, true, true, true, true, true, true, false, false]) 7 rfl (by kernel_rfl) rfl (List.Sublist.cons _ (List.Sublist.cons _ (List.Sublist.cons _ (List.Sublist.cons _ (List.Sublist.refl _))))) rfl rfl (Yv.extract rfl rfl) ?_
            refine DOps.only (listed' := #[true, true, true, true, true, true, true, true, true, true, false]) 9 rfl (by kernel_rfl) rfl rfl ?_
            refine One.store (i := 1) (off := 0) (vs := [_, _]) (cs' := [_, _]) (H' := [_, _, _, _, _, _]) lay27 rfl rfl rfl rfl rfl rfl rfl rfl rfl rfl ?_
            refine ⟨(List.Sublist.cons _ (List.Sublist.cons _ (List.Sublist.cons _ (List.Sublist.cons _ (List.Sublist.refl _))))), ?_⟩
            refine DOps.take (listed' := #[true, true, true, true, true, true, true, true, true, true, true]) 10 rfl (by kernel_rfl) rfl (List.Sublist.cons _ (List.Sublist.cons _ (List.Sublist.cons _ (List.Sublist.cons _ (List.Sublist.refl _))))) rfl rfl (Yv.assign rfl) ?_
            refine DOps.done (by kernel_rfl) ?_
            refine Run.seq ?_
            refine Run.ops ?_
            refine SOps.st rfl rfl (Yv.loadBs (i := 5) lay24 rfl rfl rfl rfl).yl ?_
            refine SOps.one rfl (One.callRow rfl callable17 (.cons rfl (.nil)) (fun w' hw' => toConvoy_spec ((Rd.arg hs) w' hw') (by omega)) (fun A4 c4 => ?_))
            refine SOps.one rfl (One.alloc rfl zero27 (fun b4 => ?_))
            refine SOps.one rfl (One.store (i := 0) (off := 0) (vs := [_, _]) (cs' := [_, _]) (H' := [_, _, _, _, _, _, _, _]) lay27 rfl rfl rfl rfl rfl rfl rfl rfl rfl rfl ?_)
            refine SOps.nil ?_
            refine Run.seq ?_
            refine Run.ops ?_
            refine SOps.st rfl rfl (Yv.loadBs (i := 6) lay24 rfl rfl rfl rfl).yl ?_
            refine SOps.one rfl (One.callRow rfl callable17 (.cons rfl (.nil)) (fun w' hw' => toConvoy_spec ((Rd.arg hs2) w' hw') (by omega)) (fun A5 c5 => ?_))
            refine SOps.one rfl (One.alloc rfl zero27 (fun b5 => ?_))
            refine SOps.one rfl (One.store (i := 0) (off := 0) (vs := [_, _]) (cs' := [_, _]) (H' := [_, _, _, _, _, _, _, _, _, _]) lay27 rfl rfl rfl rfl rfl rfl rfl rfl rfl rfl ?_)
            refine SOps.nil ?_
            refine Run.seq ?_
            refine Run.ops ?_
            refine SOps.st rfl rfl (Yv.loadBs (i := 2) lay27 rfl rfl rfl rfl).yl ?_
            refine SOps.st rfl rfl (Yv.loadBs (i := 0) lay27 rfl rfl rfl rfl).yl ?_
            refine SOps.one rfl (One.callRow rfl callable37 (.cons rfl (.cons rfl (.nil))) (fun w' hw' => JoinConvoys_spec ((Rd.row (i := 3) rfl) w' hw') ((Rd.row (i := 1) rfl) w' hw') (by omega) (by omega)) (fun A6 c6 => ?_))
            refine SOps.st rfl rfl (Yv.move rfl).yl ?_
            refine SOps.st rfl rfl (Yv.extract rfl rfl).yl ?_
            refine SOps.st rfl rfl (Yv.extract rfl rfl).yl ?_
            refine SOps.one rfl (One.alloc rfl zero27 (fun b6 => ?_))
            refine SOps.one rfl (One.store (i := 0) (off := 0) (vs := [_, _]) (cs' := [_, _]) (H' := [_, _, _, _, _, _, _, _, _, _, _, _]) lay27 rfl rfl rfl rfl rfl rfl rfl rfl rfl rfl ?_)
            refine SOps.st rfl rfl (Yv.assign rfl).yl ?_
            refine SOps.nil ?_
            refine Run.seq ?_
            refine Run.seq ?_
            refine Run.quiet (by intro h; cases h) ?_
            refine QOps.st rfl rfl (Yv.loadBs (i := 0) lay27 rfl rfl rfl rfl).yl ?_
            refine QOps.st rfl rfl (Yv.loadBs (i := 7) lay27 rfl rfl rfl rfl).yl ?_
            refine QOps.st rfl rfl (Yl.call callable19 (.cons rfl (.cons rfl (.nil))) (fun w' hw' => eqConvoy_spec ((Rd.row (i := 1) rfl) w' hw') ((Rd.row (i := 6) rfl) w' hw'))) ?_
            refine QOps.st rfl rfl (Yv.not rfl).yl ?_
            refine QOps.st rfl rfl (Yv.move rfl).yl ?_
            refine' QOps.or [_, _, _] _ (.tmp 52) rfl rfl rfl rfl rfl rfl (fun hg1 => ?_) ?_
            rotate_left
            · try replace hg1 := of_decide_eq_false hg1
              refine QOps.st rfl rfl (Yv.move rfl).yl ?_
              refine QOps.st rfl rfl (Yv.move rfl).yl ?_
              refine QOps.st rfl rfl (Yv.neB bool4 rfl rfl).yl ?_
              exact QOps.nil rfl
            refine QOps.nil ?_
            refine Run.cond rfl (fun hc3 => ?_) (fun hc3 => ?_)
            · exfalso
              first | (simp at hc3; done) | (simp at hc3; omega) | omega
            · try replace hc3 := of_decide_eq_false hc3
              refine Run.skip ?_
              refine Run.seq ?_
              refine Run.seq ?_
              refine Run.draws (fun H => H) (m := 5) (listed := #[false, false, false, false, false]) (by kernel_rfl) rfl rfl ?_
              refine DOps.take (listed' := #[true, false, false, false, false]) 0 rfl (by kernel_rfl) rfl (List.Sublist.refl _) rfl rfl (Yv.loadBs (i := 4) lay27 rfl rfl rfl rfl) ?_
              refine DOps.take (listed' := #[true, true, false, false, false]) 1 rfl (by kernel_rfl) rfl (List.Sublist.refl _) rfl rfl (Yv.loadBs (i := 11) lay24 rfl rfl rfl rfl) ?_
              refine DOps.only (listed' := #[true, true, true, false, false]) 2 rfl (by kernel_rfl) rfl rfl ?_
              refine One.callRow rfl callable17 (.cons rfl (.nil)) (fun w' hw' => toConvoy_spec ((Rd.arg hs) w' hw') (by omega)) (fun A7 c7 => ?_)
              refine ⟨(List.Sublist.cons _ (List.Sublist.refl _)), ?_⟩
              refine DOps.only (listed' := #[true, true, true, true, false]) 3 rfl (by kernel_rfl) rfl rfl ?_
              refine One.st rfl (Yl.call callable19 (.cons rfl (.cons rfl (.nil))) (fun w' hw' => eqConvoy_spec ((Rd.row (i := 6) rfl) w' hw') ((Rd.row (i := 0) rfl) w' hw'))) ?_
              refine ⟨(List.Sublist.cons _ (List.Sublist.refl _)), ?_⟩
              refine DOps.take (listed' := #[true, true, true, true, true]) 4 rfl (by kernel_rfl) rfl (List.Sublist.cons _ (List.Sublist.refl _)) rfl rfl (Yv.not rfl) ?_
              refine DOps.done (by kernel_rfl) ?_
              refine Run.cond rfl (fun hc4 => ?_) (fun hc4 => ?_)
              · exfalso
                first | (simp at hc4; done) | (simp at hc4; omega) | omega
              · try replace hc4 := of_decide_eq_false hc4
                refine Run.skip ?_
                refine Run.seq ?_
                refine Run.seq ?_
                refine Run.draws (fun H => H) (m := 5) (listed := #[false, false, false, false, false]) (by kernel_rfl) rfl rfl ?_
                refine DOps.take (listed' := #[true, false, false, false, false]) 0 rfl (by kernel_rfl) rfl (List.Sublist.refl _) rfl rfl (Yv.loadBs (i := 3) lay27 rfl rfl rfl rfl) ?_
                refine DOps.take (listed' := #[true, true, false, false, false]) 1 rfl (by kernel_rfl) rfl (List.Sublist.refl _) rfl rfl (Yv.loadBs (i := 11) lay24 rfl rfl rfl rfl) ?_
                refine DOps.only (listed' := #[true, true, true, false, false]) 2 rfl (by kernel_rfl) rfl rfl ?_
                refine One.callRow rfl callable17 (.cons rfl (.nil)) (fun w' hw' => toConvoy_spec ((Rd.arg hs2) w' hw') (by omega)) (fun A8 c8 => ?_)
                refine ⟨(List.Sublist.cons _ (List.Sublist.refl _)), ?_⟩
                refine DOps.only (listed' := #[true, true, true, true, false]) 3 rfl (by kernel_rfl) rfl rfl ?_
                refine One.st rfl (Yl.call callable19 (.cons rfl (.cons rfl (.nil))) (fun w' hw' => eqConvoy_spec ((Rd.row (i := 5) rfl) w' hw') ((Rd.row (i := 0) rfl) w' hw'))) ?_
                refine ⟨(List.Sublist.cons _ (List.Sublist.refl _)), ?_⟩
                refine DOps.take (listed' := #[true, true, true, true, true]) 4 rfl (by kernel_rfl) rfl (List.Sublist.cons _ (List.Sublist.refl _)) rfl rfl (Yv.not rfl) ?_
                refine DOps.done (by kernel_rfl) ?_
                refine Run.cond rfl (fun hc5 => ?_) (fun hc5 => ?_)
                · exfalso
                  first | (simp at hc5; done) | (simp at hc5; omega) | omega
                · try replace hc5 := of_decide_eq_false hc5
                  refine Run.skip ?_
                  refine Run.seq ?_
                  refine Run.quiet (by intro h; cases h) ?_
                  refine QOps.st rfl rfl (Yv.assign rfl).yl ?_
                  refine QOps.nil ?_
                  refine Run.seq ?_
                  refine Run.ops ?_
                  refine SOps.st rfl rfl (Yv.loadBs (i := 6) lay27 rfl rfl rfl rfl).yl ?_
                  refine SOps.st rfl rfl (Yv.move rfl).yl ?_
                  refine SOps.one rfl (One.callMut (i := 7) (H' := [_, _, _, _, _, _, _, _, _, _, _, _, _, _]) rfl callable38 (.cons rfl (.cons rfl (.nil))) rfl (fun w' hw' => markConvoy_spec (hw'.ent _ (List.mem_of_getElem? (i := 7) rfl)) (by omega) (by omega) (by omega)) rfl ?_)
                  refine SOps.st rfl rfl (Yv.assign rfl).yl ?_
                  refine SOps.nil ?_
                  refine Run.seq ?_
                  refine Run.ops ?_
                  refine SOps.st rfl rfl (Yv.loadBs (i := 4) lay27 rfl rfl rfl rfl).yl ?_
                  refine SOps.st rfl rfl (Yv.move rfl).yl ?_
                  refine SOps.one rfl (One.callMut (i := 5) (H' := [_, _, _, _, _, _, _, _, _, _, _, _, _, _]) rfl callable38 (.cons rfl (.cons rfl (.nil))) rfl (fun w' hw' => markConvoy_spec (hw'.ent _ (List.mem_of_getElem? (i := 5) rfl)) (by omega) (by omega) (by omega)) rfl ?_)
                  refine SOps.st rfl rfl (Yv.assign rfl).yl ?_
                  refine SOps.nil ?_
                  refine Run.seq ?_
                  refine Run.seq ?_
                  refine Run.quiet (by intro h; cases h) ?_
                  refine QOps.st rfl rfl (Yv.move rfl).yl ?_
                  refine QOps.st rfl rfl (Yv.lss rfl rfl).yl ?_
                  refine QOps.st rfl rfl (Yv.move rfl).yl ?_
                  refine' QOps.or [_, _, _, _] _ (.tmp 76) rfl rfl rfl rfl rfl rfl (fun hg2 => ?_) ?_
                  rotate_left
                  · try replace hg2 := of_decide_eq_false hg2
                    refine QOps.st rfl rfl (Yv.loadBs (i := 2) lay27 rfl rfl rfl rfl).yl ?_
                    refine QOps.st rfl rfl (Yv.loadBs (i := 9) lay27 rfl rfl rfl rfl).yl ?_
                    refine QOps.st rfl rfl (Yl.call callable19 (.cons rfl (.cons rfl (.nil))) (fun w' hw' => eqConvoy_spec ((Rd.row (i := 3) rfl) w' hw') ((Rd.row (i := 8) rfl) w' hw'))) ?_
                    refine QOps.st rfl rfl (Yv.not rfl).yl ?_
                    exact QOps.nil rfl
                  refine QOps.st rfl rfl (Yv.move rfl).yl ?_
                  refine' QOps.or [_, _, _] _ (.tmp 81) rfl rfl rfl rfl rfl rfl (fun hg3 => ?_) ?_
                  rotate_left
                  · try replace hg3 := of_decide_eq_false hg3
                    refine QOps.st rfl rfl (Yv.move rfl).yl ?_
                    refine QOps.st rfl rfl (Yv.move rfl).yl ?_
                    refine QOps.st rfl rfl (Yv.neB bool4 rfl rfl).yl ?_
                    exact QOps.nil rfl
                  refine QOps.nil ?_
                  refine Run.cond rfl (fun hc6 => ?_) (fun hc6 => ?_)
                  · exfalso
                    first | (simp at hc6; done) | (simp at hc6; omega) | omega
                  · try replace hc6 := of_decide_eq_false hc6
                    refine Run.skip ?_
                    refine Run.seq ?_
                    refine Run.quiet (by intro h; cases h) ?_
                    refine QOps.st rfl rfl (Yv.assign rfl).yl ?_
                    refine QOps.nil ?_
                    refine Run.seq ?_
                    refine Run.ops ?_
                    refine SOps.st rfl rfl (Yv.loadBs (i := 2) lay27 rfl rfl rfl rfl).yl ?_
                    refine SOps.st rfl rfl (Yv.move rfl).yl ?_
                    refine SOps.one rfl (One.callMut (i := 3) (H' := [_, _, _, _, _, _, _, _, _, _, _, _, _, _]) rfl callable38 (.cons rfl (.cons rfl (.nil))) rfl (fun w' hw' => markConvoy_spec (hw'.ent _ (List.mem_of_getElem? (i := 3) rfl)) (by omega) (by omega) (by omega)) rfl ?_)
                    refine SOps.st rfl rfl (Yv.assign rfl).yl ?_
                    refine SOps.nil ?_
                    refine Run.seq ?_
                    refine Run.quiet (by intro h; cases h) ?_
                    refine QOps.st rfl rfl (Yv.assign rfl).yl ?_
                    refine QOps.nil ?_
                    refine Run.seq ?_
                    refine Run.quiet (by intro h; cases h) ?_
                    refine QOps.st rfl rfl (Yv.loadBs (i := 2) lay27 rfl rfl rfl rfl).yl ?_
                    refine QOps.st rfl rfl (Yv.move rfl).yl ?_
                    refine QOps.st rfl rfl (Yl.call callable39 (.cons rfl (.cons rfl (.nil))) (fun w' hw' => heldConvoy_spec ((Rd.row (i := 3) rfl) w' hw') (by omega) (by omega) (by omega))) ?_
                    refine QOps.st rfl rfl (Yv.assign rfl).yl ?_
                    refine QOps.nil ?_
                    refine Run.seq ?_
                    refine Run.seq ?_
                    refine Run.quiet (by intro h; cases h) ?_
                    refine QOps.st rfl rfl (Yv.move rfl).yl ?_
                    refine QOps.st rfl rfl (Yv.lss rfl rfl).yl ?_
                    refine QOps.nil ?_
                    refine Run.cond rfl (fun hc7 => ?_) (fun hc7 => ?_)
                    · exfalso
                      first | (simp at hc7; done) | (simp at hc7; omega) | omega
                    · try replace hc7 := of_decide_eq_false hc7
                      refine Run.skip ?_
                      refine Run.seq ?_
                      refine Run.seq ?_
                      refine Run.quiet (by intro h; cases h) ?_
                      refine QOps.st rfl rfl (Yv.move rfl).yl ?_
                      refine QOps.st rfl rfl (Yv.move rfl).yl ?_
                      refine QOps.st rfl rfl (Yv.neI rfl rfl).yl ?_
                      refine QOps.nil ?_
                      refine Run.cond rfl (fun hc8 => ?_) (fun hc8 => ?_)
                      · exfalso
                        first | (simp at hc8; done) | (simp at hc8; omega) | omega
                      · try replace hc8 := of_decide_eq_false hc8
                        refine Run.skip ?_
                        refine Run.seq ?_
                        refine Run.draws (fun H => H) (m := 11) (listed := #[false, false, false, false, false, false, false, false, false, false, false]) (by kernel_rfl) rfl rfl ?_
                        refine DOps.take (listed' := #[true, false, false, false, false, false, false, false, false, false, false]) 0 rfl (by kernel_rfl) rfl (List.Sublist.refl _) rfl rfl (Yv.loadBs (i := 13) lay24 rfl rfl rfl rfl) ?_
                        refine DOps.take (listed' := #[true, false, true, false, false, false, false, false, false, false, false]) 2 rfl (by kernel_rfl) rfl (List.Sublist.refl _) rfl rfl (Yv.loadBs (i := 12) lay24 rfl rfl rfl rfl) ?_
                        refine DOps.fork2 (l1 := #[true, true, true, false, false, false, false, false, false, false, false]) (l2 := #[true, false, true, false, false, false, false, false, true, false, false]) 1 8 rfl rfl (by kernel_rfl) rfl rfl rfl rfl ?_ ?_
                        ·
                          refine One.callRow rfl callable17 (.cons rfl (.nil)) (fun w' hw' => toConvoy_spec ((Rd.arg hs) w' hw') (by omega)) (fun A9 c9 => ?_)
                          refine ⟨(List.Sublist.cons _ (List.Sublist.refl _)), ?_⟩
                          refine DOps.fork2 (l1 := #[true, true, true, true, false, false, false, false, false, false, false]) (l2 := #[true, true, true, false, false, false, false, false, true, false, false]) 3 8 rfl rfl (by kernel_rfl) rfl rfl rfl rfl ?_ ?_
                          ·
                            refine One.callRow rfl callable17 (.cons rfl (.nil)) (fun w' hw' => toConvoy_spec ((Rd.arg hs2) w' hw') (by omega)) (fun A10 c10 => ?_)
                            refine ⟨(List.Sublist.cons _ (List.Sublist.cons _ (List.Sublist.refl _))), ?_⟩
                            refine DOps.fork2 (l1 := #[true, true, true, true, true, false, false, false, false, false, false]) (l2 := #[true, true, true, true, false, false, false, false, true, false, false]) 4 8 rfl rfl (by kernel_rfl) rfl rfl rfl rfl ?_ ?_
                            ·
                              refine One.callRow rfl callable37 (.cons rfl (.cons rfl (.nil))) (fun w' hw' => JoinConvoys_spec ((Rd.row (i := 1) rfl) w' hw') ((Rd.row (i := 0) rfl) w' hw') (by omega) (by omega)) (fun A11 c11 => ?_)
                              refine ⟨(List.Sublist.cons _ (List.Sublist.cons _ (List.Sublist.cons _ (List.Sublist.refl _)))), ?_⟩
                              refine DOps.take (listed' := #[true, true, true, true, true, true, false, false, false, false, false]) 5 rfl (by kernel_rfl) rfl (List.Sublist.cons _ (List.Sublist.cons _ (List.Sublist.cons _ (List.Sublist.refl _)))) rfl rfl (Yv.move rfl) ?_
                              refine DOps.take (listed' := #[true, true, true, true, true, true, true, false, false, false, false]) 6 rfl (by kernel_rfl) rfl (List.Sublist.cons _ (List.Sublist.cons _ (List.Sublist.cons _ (List.Sublist.refl _)))) rfl rfl (Yv.extract rfl rfl) ?_
                              refine DOps.take (listed' := #[true, true, true, true, true, true, true, true, false, false, false]) 7 rfl (by kernel_rfl) rfl (List.Sublist.cons _ (List.Sublist.cons _ (List.Sublist.cons _ (List.Sublist.refl _)))) rfl rfl (Yv.extract rfl rfl) ?_
                              refine DOps.only (listed' := #[true, true, true, true, true, true, true, true, true, false, false]) 8 rfl (by kernel_rfl) rfl rfl ?_
                              refine One.alloc rfl zero27 (fun b7 => ?_)
                              refine ⟨(List.Sublist.cons _ (List.Sublist.cons _ (List.Sublist.cons _ (List.Sublist.cons _ (List.Sublist.refl _))))), ?_⟩
                              refine DOps.only (listed' := #[true, true, true, true, true, true, true, true, true, true, false]) 9 rfl (by kernel_rfl) rfl rfl ?_
                              refine One.store (i := 0) (off := 0) (vs := [_, _]) (cs' := [_, _]) (H' := [_, _, _, _, _, _, _, _, _, _, _, _, _, _, _, _, _, _]) lay27 rfl rfl rfl rfl rfl rfl rfl rfl rfl rfl ?_
                              refine ⟨(List.Sublist.cons _ (List.Sublist.cons _ (List.Sublist.cons _ (List.Sublist.cons _ (List.Sublist.refl _))))), ?_⟩
                              refine DOps.take (listed' := #[true, true, true, true, true, true, true, true, true, true, true]) 10 rfl (by kernel_rfl) rfl (List.Sublist.cons _ (List.Sublist.cons _ (List.Sublist.cons _ (List.Sublist.cons _ (List.Sublist.refl _))))) rfl rfl (Yv.assign rfl) ?_
                              refine DOps.done (by kernel_rfl) ?_
                              refine Run.seq ?_
                              refine Run.seq ?_
                              refine Run.quiet (by intro h; cases h) ?_
                              refine QOps.st rfl rfl (Yv.loadBs (i := 0) lay27 rfl rfl rfl rfl).yl ?_
                              refine QOps.st rfl rfl (Yv.loadBs (i := 13) lay27 rfl rfl rfl rfl).yl ?_
                              refine QOps.st rfl rfl (Yl.call callable19 (.cons rfl (.cons rfl (.nil))) (fun w' hw' => eqConvoy_spec ((Rd.row (i := 1) rfl) w' hw') ((Rd.row (i := 12) rfl) w' hw'))) ?_
                              refine QOps.st rfl rfl (Yv.not rfl).yl ?_
                              refine QOps.st rfl rfl (Yv.move rfl).yl ?_
                              refine' QOps.or [_, _, _] _ (.tmp 109) rfl rfl rfl rfl rfl rfl (fun hg4 => ?_) ?_
                              rotate_left
                              · try replace hg4 := of_decide_eq_false hg4
                                refine QOps.st rfl rfl (Yv.move rfl).yl ?_
                                refine QOps.st rfl rfl (Yv.move rfl).yl ?_
                                refine QOps.st rfl rfl (Yv.neB bool4 rfl rfl).yl ?_
                                exact QOps.nil rfl
                              refine QOps.nil ?_
                              refine Run.cond rfl (fun hc9 => ?_) (fun hc9 => ?_)
                              · exfalso
                                first | (simp at hc9; done) | (simp at hc9; omega) | omega
                              · try replace hc9 := of_decide_eq_false hc9
                                refine Run.skip ?_
                                refine Run.seq ?_
                                refine Run.quiet (by intro h; cases h) ?_
                                refine QOps.st rfl rfl (Yv.assign rfl).yl ?_
                                refine QOps.nil ?_
                                refine Run.seq ?_
                                refine Run.quiet (by intro h; cases h) ?_
                                refine QOps.st rfl rfl (Yv.loadBs (i := 6) lay27 rfl rfl rfl rfl).yl ?_
                                refine QOps.st rfl rfl (Yv.move rfl).yl ?_
                                refine QOps.st rfl rfl (Yl.call callable39 (.cons rfl (.cons rfl (.nil))) (fun w' hw' => heldConvoy_spec ((Rd.row (i := 7) rfl) w' hw') (by omega) (by omega) (by omega))) ?_
                                refine QOps.st rfl rfl (Yv.assign rfl).yl ?_
                                refine QOps.nil ?_
                                refine Run.seq ?_
                                refine Run.seq ?_
                                refine Run.quiet (by intro h; cases h) ?_
                                refine QOps.st rfl rfl (Yv.move rfl).yl ?_
                                refine QOps.st rfl rfl (Yv.lss rfl rfl).yl ?_
                                refine QOps.nil ?_
                                refine Run.cond rfl (fun hc10 => ?_) (fun hc10 => ?_)
                                · exfalso
                                  first | (simp at hc10; done) | (simp at hc10; omega) | omega
                                · try replace hc10 := of_decide_eq_false hc10
                                  refine Run.skip ?_
                                  refine Run.seq ?_
                                  refine Run.seq ?_
                                  refine Run.quiet (by intro h; cases h) ?_
                                  refine QOps.st rfl rfl (Yv.move rfl).yl ?_
                                  refine QOps.st rfl rfl (Yv.move rfl).yl ?_
                                  refine QOps.st rfl rfl (Yv.neI rfl rfl).yl ?_
                                  refine QOps.nil ?_
                                  refine Run.cond rfl (fun hc11 => ?_) (fun hc11 => ?_)
                                  · exfalso
                                    first | (simp at hc11; done) | (simp at hc11; omega) | omega
                                  · try replace hc11 := of_decide_eq_false hc11
                                    refine Run.skip ?_
                                    refine Run.seq ?_
                                    refine Run.quiet (by intro h; cases h) ?_
                                    refine QOps.st rfl rfl (Yv.assign rfl).yl ?_
                                    refine QOps.nil ?_
                                    refine Run.ret ?_
                                    refine retQ.of (.inr rfl) rfl (.tmp rfl .nil) (fun w' hw' => ?_)
                                    refine ⟨?_, hw'.bel.below⟩
                                    exact rfl
                            ·
                              refine One.alloc rfl zero27 (fun b7 => ?_)
                              refine ⟨(List.Sublist.cons _ (List.Sublist.cons _ (List.Sublist.cons _ (List.Sublist.refl _)))), ?_⟩
                              refine DOps.only (listed' := #[true, true, true, true, true, false, false, false, true, false, false]) 4 rfl (by kernel_rfl) rfl rfl ?_
                              refine One.callRow rfl callable37 (.cons rfl (.cons rfl (.nil))) (fun w' hw' => JoinConvoys_spec ((Rd.row (i := 2) rfl) w' hw') ((Rd.row (i := 1) rfl) w' hw') (by omega) (by omega)) (fun A11 c11 => ?_)
                              refine ⟨(List.Sublist.cons _ (List.Sublist.cons _ (List.Sublist.cons _ (List.Sublist.cons _ (List.Sublist.refl _))))), ?_⟩
                              refine DOps.take (listed' := #[true, true, true, true, true, true, false, false, true, false, false]) 5 rfl (by kernel_rfl) rfl (List.Sublist.cons _ (List.Sublist.cons _ (List.Sublist.cons _ (List.Sublist.cons _ (List.Sublist.refl _))))) rfl rfl (Yv.move rfl) ?_
                              refine DOps.take (listed' := #[true, true, true, true, true, true, true, false, true, false, false]) 6 rfl (by kernel_rfl) rfl (List.Sublist.cons _ (List.Sublist.cons _ (List.Sublist.cons _ (List.Sublist.cons _ (List.Sublist.refl _))))) rfl rfl (Yv.extract rfl rfl) ?_
                              refine DOps.take (listed' := #[true, true, true, true, true, true, true, true, true, false, false]) 7 rfl (by kernel_rfl) rfl (List.Sublist.cons _ (List.Sublist.cons _ (List.Sublist.cons _ (List.Sublist.cons _ (List.Sublist.refl _))))) rfl rfl (Yv.extract rfl rfl) ?_
                              refine DOps.only (listed' := #[true, true, true, true, true, true, true, true, true, true, false]) 9 rfl (by kernel_rfl) rfl rfl ?_
                              refine One.store (i := 1) (off := 0) (vs := [_, _]) (cs' := [_, _]) (H' := [_, _, _, _, _, _, _, _, _, _, _, _, _, _, _, _, _, _]) lay27 rfl rfl rfl rfl rfl rfl rfl rfl rfl rfl ?_
                              refine ⟨(List.Sublist.cons _ (List.Sublist.cons _ (List.Sublist.cons _ (List.Sublist.cons _ (List.Sublist.refl _))))), ?_⟩
                              refine DOps.take (listed' := #[true, true, true, true, true, true, true, true, true, true, true]) 10 rfl (by kernel_rfl) rfl (List.Sublist.cons _ (List.Sublist.cons _ (List.Sublist.cons _ (List.Sublist.cons _ (List.Sublist.refl _))))) rfl rfl (Yv.assign rfl) ?_
                              refine DOps.done (by kernel_rfl) ?_
                              refine Run.seq ?_
                              refine Run.seq ?_
                              refine Run.quiet (by intro h; cases h) ?_
                              refine QOps.st rfl rfl (Yv.loadBs (i := 1) lay27 rfl rfl rfl rfl).yl ?_
                              refine QOps.st rfl rfl (Yv.loadBs (i := 13) lay27 rfl rfl rfl rfl).yl ?_
                              refine QOps.st rfl rfl (Yl.call callable19 (.cons rfl (.cons rfl (.nil))) (fun w' hw' => eqConvoy_spec ((Rd.row (i := 0) rfl) w' hw') ((Rd.row (i := 12) rfl) w' hw'))) ?_
                              refine QOps.st rfl rfl (Yv.not rfl).yl ?_
                              refine QOps.st rfl rfl (Yv.move rfl).yl ?_
                              refine' QOps.or [_, _, _] _ (.tmp 109) rfl rfl rfl rfl rfl rfl (fun hg4 => ?_) ?_
                              rotate_left
                              · try replace hg4 := of_decide_eq_false hg4
                                refine QOps.st rfl rfl (Yv.move rfl).yl ?_
                                refine QOps.st rfl rfl (Yv.move rfl).yl ?_
                                refine QOps.st rfl rfl (Yv.neB bool4 rfl rfl).yl ?_
                                exact QOps.nil rfl
                              refine QOps.nil ?_
                              refine Run.cond rfl (fun hc9 => ?_) (fun hc9 => ?_)
                              · exfalso
                                first | (simp at hc9; done) | (simp at hc9; omega) | omega
                              · try replace hc9 := of_decide_eq_false hc9
                                refine Run.skip ?_
                                refine Run.seq ?_
                                refine Run.quiet (by intro h; cases h) ?_
                                refine QOps.st rfl rfl (Yv.assign rfl).yl ?_
                                refine QOps.nil ?_
                                refine Run.seq ?_
                                refine Run.quiet (by intro h; cases h) ?_
                                refine QOps.st rfl rfl (Yv.loadBs (i := 6) lay27 rfl rfl rfl rfl).yl ?_
                                refine QOps.st rfl rfl (Yv.move rfl).yl ?_
                                refine QOps.st rfl rfl (Yl.call callable39 (.cons rfl (.cons rfl (.nil))) (fun w' hw' => heldConvoy_spec ((Rd.row (i := 7) rfl) w' hw') (by omega) (by omega) (by omega))) ?_
                                refine QOps.st rfl rfl (Yv.assign rfl).yl ?_
                                refine QOps.nil ?_
                                refine Run.seq ?_
                                refine Run.seq ?_
                                refine Run.quiet (by intro h; cases h) ?_
                                refine QOps.st rfl rfl (Yv.move rfl).yl ?_
                                refine QOps.st rfl rfl (Yv.lss rfl rfl).yl ?_
                                refine QOps.nil ?_
                                refine Run.cond rfl (fun hc10 => ?_) (fun hc10 => ?_)
                                · exfalso
                                  first | (simp at hc10; done) | (simp at hc10; omega) | omega
                                · try replace hc10 := of_decide_eq_false hc10
                                  refine Run.skip ?_
                                  refine Run.seq ?_
                                  refine Run.seq ?_
                                  refine Run.quiet (by intro h; cases h) ?_
                                  refine QOps.st rfl rfl (Yv.move rfl).yl ?_
                                  refine QOps.st rfl rfl (Yv.move rfl).yl ?_
                                  refine QOps.st rfl rfl (Yv.neI rfl rfl).yl ?_
                                  refine QOps.nil ?_
                                  refine Run.cond rfl (fun hc11 => ?_) (fun hc11 => ?_)
                                  · exfalso
                                    first | (simp at hc11; done) | (simp at hc11; omega) | omega
                                  · try replace hc11 := of_decide_eq_false hc11
                                    refine Run.skip ?_
                                    refine Run.seq ?_
                                    refine Run.quiet (by intro h; cases h) ?_
                                    refine QOps.st rfl rfl (Yv.assign rfl).yl ?_
                                    refine QOps.nil ?_
                                    refine Run.ret ?_
                                    refine retQ.of (.inr rfl) rfl (.tmp rfl .nil) (fun w' hw' => ?_)
                                    refine ⟨?_, hw'.bel.below⟩
                                    exact rfl
                          ·
                            refine One.alloc rfl zero27 (fun b7 => ?_)
                            refine ⟨(List.Sublist.cons _ (List.Sublist.cons _ (List.Sublist.refl _))), ?_⟩
                            refine DOps.only (listed' := #[true, true, true, true, false, false, false, false, true, false, false]) 3 rfl (by kernel_rfl) rfl rfl ?_
                            refine One.callRow rfl callable17 (.cons rfl (.nil)) (fun w' hw' => toConvoy_spec ((Rd.arg hs2) w' hw') (by omega)) (fun A10 c10 => ?_)
                            refine ⟨(List.Sublist.cons _ (List.Sublist.cons _ (List.Sublist.cons _ (List.Sublist.refl _)))), ?_⟩
                            refine DOps.only (listed' := #[true, true, true, true, true, false, false, false, true, false, false]) 4 rfl (by kernel_rfl) rfl rfl ?_
                            refine One.callRow rfl callable37 (.cons rfl (.cons rfl (.nil))) (fun w' hw' => JoinConvoys_spec ((Rd.row (i := 2) rfl) w' hw') ((Rd.row (i := 0) rfl) w' hw') (by omega) (by omega)) (fun A11 c11 => ?_)
                            refine ⟨(List.Sublist.cons _ (List.Sublist.cons _ (List.Sublist.cons _ (List.Sublist.cons _ (List.Sublist.refl _))))), ?_⟩
                            refine DOps.take (listed' := #[true, true, true, true, true, true, false, false, true, false, false]) 5 rfl (by kernel_rfl) rfl (List.Sublist.cons _ (List.Sublist.cons _ (List.Sublist.cons _ (List.Sublist.cons _ (List.Sublist.refl _))))) rfl rfl (Yv.move rfl) ?_
                            refine DOps.take (listed' := #[true, true, true, true, true, true, true, false, true, false, false]) 6 rfl (by kernel_rfl) rfl (List.Sublist.cons _ (List.Sublist.cons _ (List.Sublist.cons _ (List.Sublist.cons _ (List.Sublist.refl _))))) rfl rfl (Yv.extract rfl rfl) ?_
                            refine DOps.take (listed' := #[true, true, true, true, true, true, true, true, true, false, false]) 7 rfl (by kernel_rfl) rfl (List.Sublist.cons _ (List.Sublist.cons _ (List.Sublist.cons _ (List.Sublist.cons _ (List.Sublist.refl _))))) rfl rfl (Yv.extract rfl rfl) ?_
                            refine DOps.only (listed' := #[true, true, true, true, true, true, true, true, true, true, false]) 9 rfl (by kernel_rfl) rfl rfl ?_
                            refine One.store (i := 2) (off := 0) (vs := [_, _]) (cs' := [_, _]) (H' := [_, _, _, _, _, _, _, _, _, _, _, _, _, _, _, _, _, _]) lay27 rfl rfl rfl rfl rfl rfl rfl rfl rfl rfl ?_
                            refine ⟨(List.Sublist.cons _ (List.Sublist.cons _ (List.Sublist.cons _ (List.Sublist.cons _ (List.Sublist.refl _))))), ?_⟩
                            refine DOps.take (listed' := #[true, true, true, true, true, true, true, true, true, true, true]) 10 rfl (by kernel_rfl) rfl (List.Sublist.cons _ (List.Sublist.cons _ (List.Sublist.cons _ (List.Sublist.cons _ (List.Sublist.refl _))))) rfl rfl (Yv.assign rfl) ?_
                            refine DOps.done (by kernel_rfl) ?_
                            refine Run.seq ?_
                            refine Run.seq ?_
                            refine Run.quiet (by intro h; cases h) ?_
                            refine QOps.st rfl rfl (Yv.loadBs (i := 2) lay27 rfl rfl rfl rfl).yl ?_
                            refine QOps.st rfl rfl (Yv.loadBs (i := 13) lay27 rfl rfl rfl rfl).yl ?_
                            refine QOps.st rfl rfl (Yl.call callable19 (.cons rfl (.cons rfl (.nil))) (fun w' hw' => eqConvoy_spec ((Rd.row (i := 0) rfl) w' hw') ((Rd.row (i := 12) rfl) w' hw'))) ?_
                            refine QOps.st rfl rfl (Yv.not rfl).yl ?_
                            refine QOps.st rfl rfl (Yv.move rfl).yl ?_
                            refine' QOps.or [_, _, _] _ (.tmp 109) rfl rfl rfl rfl rfl rfl (fun hg4 => ?_) ?_
                            rotate_left
                            · try replace hg4 := of_decide_eq_false hg4
                              refine QOps.st rfl rfl (Yv.move rfl).yl ?_
                              refine QOps.st rfl rfl (Yv.move rfl).yl ?_
                              refine QOps.st rfl rfl (Yv.neB bool4 rfl rfl).yl ?_
                              exact QOps.nil rfl
                            refine QOps.nil ?_
                            refine Run.cond rfl (fun hc9 => ?_) (fun hc9 => ?_)
                            · exfalso
                              first | (simp at hc9; done) | (simp at hc9; omega) | omega
                            · try replace hc9 := of_decide_eq_false hc9
                              refine Run.skip ?_
                              refine Run.seq ?_
                              refine Run.quiet (by intro h; cases h) ?_
                              refine QOps.st rfl rfl (Yv.assign rfl).yl ?_
                              refine QOps.nil ?_
                              refine Run.seq ?_
                              refine Run.quiet (by intro h; cases h) ?_
                              refine QOps.st rfl rfl (Yv.loadBs (i := 6) lay27 rfl rfl rfl rfl).yl ?_
                              refine QOps.st rfl rfl (Yv.move rfl).yl ?_
                              refine QOps.st rfl rfl (Yl.call callable39 (.cons rfl (.cons rfl (.nil))) (fun w' hw' => heldConvoy_spec ((Rd.row (i := 7) rfl) w' hw') (by omega) (by omega) (by omega))) ?_
                              refine QOps.st rfl rfl (Yv.assign rfl).yl ?_
                              refine QOps.nil ?_
                              refine Run.seq ?_
                              refine Run.seq ?_
                              refine Run.quiet (by intro h; cases h) ?_
                              refine QOps.st rfl rfl (Yv.move rfl).yl ?_
                              refine QOps.st rfl rfl (Yv.lss rfl rfl).yl ?_
                              refine QOps.nil ?_
                              refine Run.cond rfl (fun hc10 => ?_) (fun hc10 => ?_)
                              · exfalso
                                first | (simp at hc10; done) | (simp at hc10; omega) | omega
                              · try replace hc10 := of_decide_eq_false hc10
                                refine Run.skip ?_
                                refine Run.seq ?_
                                refine Run.seq ?_
                                refine Run.quiet (by intro h; cases h) ?_
                                refine QOps.st rfl rfl (Yv.move rfl).yl ?_
                                refine QOps.st rfl rfl (Yv.move rfl).yl ?_
                                refine QOps.st rfl rfl (Yv.neI rfl rfl).yl ?_
                                refine QOps.nil ?_
                                refine Run.cond rfl (fun hc11 => ?_) (fun hc11 => ?_)
                                · exfalso
                                  first | (simp at hc11; done) | (simp at hc11; omega) | omega
                                · try replace hc11 := of_decide_eq_false hc11
                                  refine Run.skip ?_
                                  refine Run.seq ?_
                                  refine Run.quiet (by intro h; cases h) ?_
                                  refine QOps.st rfl rfl (Yv.assign rfl).yl ?_
                                  refine QOps.nil ?_
                                  refine Run.ret ?_
                                  refine retQ.of (.inr rfl) rfl (.tmp rfl .nil) (fun w' hw' => ?_)
                                  refine ⟨?_, hw'.bel.below⟩
                                  exact rfl
                        ·
                          refine One.alloc rfl zero27 (fun b7 => ?_)
                          refine ⟨(List.Sublist.cons _ (List.Sublist.refl _)), ?_⟩
                          refine DOps.only (listed' := #[true, true, true, false, false, false, false, false, true, false, false]) 1 rfl (by kernel_rfl) rfl rfl ?_
                          refine One.callRow rfl callable17 (.cons rfl (.nil)) (fun w' hw' => toConvoy_spec ((Rd.arg hs) w' hw') (by omega)) (fun A9 c9 => ?_)
                          refine ⟨(List.Sublist.cons _ (List.Sublist.cons _ (List.Sublist.refl _))), ?_⟩
                          refine DOps.only (listed' := #[true, true, true, true, false, false, false, false, true, false, false]) 3 rfl (by kernel_rfl) rfl rfl ?_
                          refine One.callRow rfl callable17 (.cons rfl (.nil)) (fun w' hw' => toConvoy_spec ((Rd.arg hs2) w' hw') (by omega)) (fun A10 c10 => ?_)
                          refine ⟨(List.Sublist.cons _ (List.Sublist.cons _ (List.Sublist.cons _ (List.Sublist.refl _)))), ?_⟩
                          refine DOps.only (listed' := #[true, true, true, true, true, false, false, false, true, false, false]) 4 rfl (by kernel_rfl) rfl rfl ?_
                          refine One.callRow rfl callable37 (.cons rfl (.cons rfl (.nil))) (fun w' hw' => JoinConvoys_spec ((Rd.row (i := 1) rfl) w' hw') ((Rd.row (i := 0) rfl) w' hw') (by omega) (by omega)) (fun A11 c11 => ?_)
                          refine ⟨(List.Sublist.cons _ (List.Sublist.cons _ (List.Sublist.cons _ (List.Sublist.cons _ (List.Sublist.refl _))))), ?_⟩
                          refine DOps.take (listed' := #[true, true, true, true, true, true, false, false, true, false, false]) 5 rfl (by kernel_rfl) rfl (List.Sublist.cons _ (List.Sublist.cons _ (List.Sublist.cons _ (List.Sublist.cons _ (List.Sublist.refl _))))) rfl rfl (Yv.move rfl) ?_
                          refine DOps.take (listed' := #[true, true, true, true, true, true, true, false, true, false, false]) 6 rfl (by kernel_rfl) rfl (List.Sublist.cons _ (List.Sublist.cons _ (List.Sublist.cons _ (List.Sublist.cons _ (List.Sublist.refl _))))) rfl rfl (Yv.extract rfl rfl) ?_
                          refine DOps.take (listed' := #[true, true, true, true, true, true, true, true, true, false, false]) 7 rfl (by kernel_rfl) rfl (List.Sublist.cons _ (List.Sublist.cons _ (List.Sublist.cons _ (List.Sublist.cons _ (List.Sublist.refl _))))) rfl rfl (Yv.extract rfl rfl) ?_
                          refine DOps.only (listed' := #[true, true, true, true, true, true, true, true, true, true, false]) 9 rfl (by kernel_rfl) rfl rfl ?_
                          refine One.store (i := 3) (off := 0) (vs := [_, _]) (cs' := [_, _]) (H' := [_, _, _, _, _, _, _, _, _, _, _, _, _, _, _, _, _, _]) lay27 rfl rfl rfl rfl rfl rfl rfl rfl rfl rfl ?_
                          refine ⟨(List.Sublist.cons _ (List.Sublist.cons _ (List.Sublist.cons _ (List.Sublist.cons _ (List.Sublist.refl _))))), ?_⟩
                          refine DOps.take (listed' := #[true, true, true, true, true, true, true, true, true, true, true]) 10 rfl (by kernel_rfl) rfl (List.Sublist.cons _ (List.Sublist.cons _ (List.Sublist.cons _ (List.Sublist.cons _ (List.Sublist.refl _))))) rfl rfl (Yv.assign rfl) ?_
                          refine DOps.done (by kernel_rfl) ?_
                          refine Run.seq ?_
                          refine Run.seq ?_
                          refine Run.quiet (by intro h; cases h) ?_
                          refine QOps.st rfl rfl (Yv.loadBs (i := 3) lay27 rfl rfl rfl rfl).yl ?_
                          refine QOps.st rfl rfl (Yv.loadBs (i := 13) lay27 rfl rfl rfl rfl).yl ?_
                          refine QOps.st rfl rfl (Yl.call callable19 (.cons rfl (.cons rfl (.nil))) (fun w' hw' => eqConvoy_spec ((Rd.row (i := 0) rfl) w' hw') ((Rd.row (i := 12) rfl) w' hw'))) ?_
                          refine QOps.st rfl rfl (Yv.not rfl).yl ?_
                          refine QOps.st rfl rfl (Yv.move rfl).yl ?_
                          refine' QOps.or [_, _, _] _ (.tmp 109) rfl rfl rfl rfl rfl rfl (fun hg4 => ?_) ?_
                          rotate_left
                          · try replace hg4 := of_decide_eq_false hg4
                            refine QOps.st rfl rfl (Yv.move rfl).yl ?_
                            refine QOps.st rfl rfl (Yv.move rfl).yl ?_
                            refine QOps.st rfl rfl (Yv.neB bool4 rfl rfl).yl ?_
                            exact QOps.nil rfl
                          refine QOps.nil ?_
                          refine Run.cond rfl (fun hc9 => ?_) (fun hc9 => ?_)
                          · exfalso
                            first | (simp at hc9; done) | (simp at hc9; omega) | omega
                          · try replace hc9 := of_decide_eq_false hc9
                            refine Run.skip ?_
                            refine Run.seq ?_
                            refine Run.quiet (by intro h; cases h) ?_
                            refine QOps.st rfl rfl (Yv.assign rfl).yl ?_
                            refine QOps.nil ?_
                            refine Run.seq ?_
                            refine Run.quiet (by intro h; cases h) ?_
                            refine QOps.st rfl rfl (Yv.loadBs (i := 6) lay27 rfl rfl rfl rfl).yl ?_
                            refine QOps.st rfl rfl (Yv.move rfl).yl ?_
                            refine QOps.st rfl rfl (Yl.call callable39 (.cons rfl (.cons rfl (.nil))) (fun w' hw' => heldConvoy_spec ((Rd.row (i := 7) rfl) w' hw') (by omega) (by omega) (by omega))) ?_
                            refine QOps.st rfl rfl (Yv.assign rfl).yl ?_
                            refine QOps.nil ?_
                            refine Run.seq ?_
                            refine Run.seq ?_
                            refine Run.quiet (by intro h; cases h) ?_
                            refine QOps.st rfl rfl (Yv.move rfl).yl ?_
                            refine QOps.st rfl rfl (Yv.lss rfl rfl).yl ?_
                            refine QOps.nil ?_
                            refine Run.cond rfl (fun hc10 => ?_) (fun hc10 => ?_)
                            · exfalso
                              first | (simp at hc10; done) | (simp at hc10; omega) | omega
                            · try replace hc10 := of_decide_eq_false hc10
                              refine Run.skip ?_
                              refine Run.seq ?_
                              refine Run.seq ?_
                              refine Run.quiet (by intro h; cases h) ?_
                              refine QOps.st rfl rfl (Yv.move rfl).yl ?_
                              refine QOps.st rfl rfl (Yv.move rfl).yl ?_
                              refine QOps.st rfl rfl (Yv.neI rfl rfl).yl ?_
                              refine QOps.nil ?_
                              refine Run.cond rfl (fun hc11 => ?_) (fun hc11 => ?_)
                              · exfalso
                                first | (simp at hc11; done) | (simp at hc11; omega) | omega
                              · try replace hc11 := of_decide_eq_false hc11
                                refine Run.skip ?_
                                refine Run.seq ?_
                                refine Run.quiet (by intro h; cases h) ?_
                                refine QOps.st rfl rfl (Yv.assign rfl).yl ?_
                                refine QOps.nil ?_
                                refine Run.ret ?_
                                refine retQ.of (.inr rfl) rfl (.tmp rfl .nil) (fun w' hw' => ?_)
                                refine ⟨?_, hw'.bel.below⟩
                                exact rfl
        ·
          refine One.alloc rfl zero27 (fun b3 => ?_)
          refine ⟨(List.Sublist.cons _ (List.Sublist.cons _ (List.Sublist.refl _))), ?_⟩
          refine DOps.only (listed' := #[true, true, true, true, false, false, false, false, true, false, false]) 3 rfl (by kernel_rfl) rfl rfl ?_
          refine One.callRow rfl callable17 (.cons rfl (.nil)) (fun w' hw' => toConvoy_spec ((Rd.arg hs2) w' hw') (by omega)) (fun A2 c2 => ?_)
          refine ⟨(List.Sublist.cons _ (List.Sublist.cons _ (List.Sublist.cons _ (List.Sublist.refl _)))), ?_⟩
          refine DOps.only (listed' := #[true, true, true, true, true, false, false, false, true, false, false]) 4 rfl (by kernel_rfl) rfl rfl ?_
          refine One.callRow rfl callable36 (.cons rfl (.cons rfl (.nil))) (fun w' hw' => sJoinConvoys_spec ((Rd.row (i := 2) rfl) w' hw') ((Rd.row (i := 0) rfl) w' hw') (by omega) (by omega)) (fun A3 c3 => ?_)
          refine ⟨(List.Sublist.cons _ (List.Sublist.cons _ (List.Sublist.cons _ (List.Sublist.cons _ (List.Sublist.refl _))))), ?_⟩
          refine DOps.take (listed' := #[true, true, true, true, true, true, false, false, true, false, false]) 5 rfl (by kernel_rfl) rfl (List.Sublist.cons _ (List.Sublist.cons _ (List.Sublist.cons _ (List.Sublist.cons _ (List.Sublist.refl _))))) rfl rfl (Yv.move rfl) ?_
          refine DOps.take (listed' := #[true, true, true, true, true, true, true, false, true, false, false]) 6 rfl (by kernel_rfl) rfl (List.Sublist.cons _ (List.Sublist.cons _ (List.Sublist.cons _ (List.Sublist.cons _ (List.Sublist.refl _))))) rfl rfl (Yv.extract rfl rfl) ?_
          refine DOps.take (listed' := #[true, true, true, true, true, true, true, true, true, false, false]) 7 rfl (by kernel_rfl) rfl (List.Sublist.cons _ (List.Sublist.cons _ (List.Sublist.cons _ (List.Sublist.cons _ (List.Sublist.refl _))))) rfl rfl (Yv.extract rfl rfl) ?_
          refine DOps.only (listed' := #[true, true, true, true, true, true, true, true, true, true, false]) 9 rfl (by kernel_rfl) rfl rfl ?_
          refine One.store (i := 2) (off := 0) (vs := [_, _]) (cs' := [_, _]) (H' := [_, _, _, _, _, _]) lay27 rfl rfl rfl rfl rfl rfl rfl rfl rfl rfl ?_
          refine ⟨(List.Sublist.cons _ (List.Sublist.cons _ (List.Sublist.cons _ (List.Sublist.cons _ (List.Sublist.refl _))))), ?_⟩
          refine DOps.take (listed' := #[true, true, true, true, true, true, true, true, true, true, true]) 10 rfl (by kernel_rfl) rfl (List.Sublist.cons _ (List.Sublist.cons _ (List.Sublist.cons _ (List.Sublist.cons _ (List.Sublist.refl _))))) rfl rfl (Yv.assign rfl) ?_
          refine DOps.done (by kernel_rfl) ?_
          refine Run.seq ?_
          refine Run.ops ?_
          refine SOps.st rfl rfl (Yv.loadBs (i := 5) lay24 rfl rfl rfl rfl).yl ?_
          refine SOps.one rfl (One.callRow rfl callable17 (.cons rfl (.nil)) (fun w' hw' => toConvoy_spec ((Rd.arg hs) w' hw') (by omega)) (fun A4 c4 => ?_))
          refine SOps.one rfl (One.alloc rfl zero27 (fun b4 => ?_))
          refine SOps.one rfl (One.store (i := 0) (off := 0) (vs := [_, _]) (cs' := [_, _]) (H' := [_, _, _, _, _, _, _, _]) lay27 rfl rfl rfl rfl rfl rfl rfl rfl rfl rfl ?_)
          refine SOps.nil ?_
          refine Run.seq ?_
          refine Run.ops ?_
          refine SOps.st rfl rfl (Yv.loadBs (i := 6) lay24 rfl rfl rfl rfl).yl ?_
          refine SOps.one rfl (One.callRow rfl callable17 (.cons rfl (.nil)) (fun w' hw' => toConvoy_spec ((Rd.arg hs2) w' hw') (by omega)) (fun A5 c5 => ?_))
          refine SOps.one rfl (One.alloc rfl zero27 (fun b5 => ?_))
          refine SOps.one rfl (One.store (i := 0) (off := 0) (vs := [_, _]) (cs' := [_, _]) (H' := [_, _, _, _, _, _, _, _, _, _]) lay27 rfl rfl rfl rfl rfl rfl rfl rfl rfl rfl ?_)
          refine SOps.nil ?_
          refine Run.seq ?_
          refine Run.ops ?_
          refine SOps.st rfl rfl (Yv.loadBs (i := 2) lay27 rfl rfl rfl rfl).yl ?_
          refine SOps.st rfl rfl (Yv.loadBs (i := 0) lay27 rfl rfl rfl rfl).yl ?_
          refine SOps.one rfl (One.callRow rfl callable37 (.cons rfl (.cons rfl (.nil))) (fun w' hw' => JoinConvoys_spec ((Rd.row (i := 3) rfl) w' hw') ((Rd.row (i := 1) rfl) w' hw') (by omega) (by omega)) (fun A6 c6 => ?_))
          refine SOps.st rfl rfl (Yv.move rfl).yl ?_
          refine SOps.st rfl rfl (Yv.extract rfl rfl).yl ?_
          refine SOps.st rfl rfl (Yv.extract rfl rfl).yl ?_
          refine SOps.one rfl (One.alloc rfl zero27 (fun b6 => ?_))
          refine SOps.one rfl (One.store (i := 0) (off := 0) (vs := [_, _]) (cs' := [_, _]) (H' := [_, _, _, _, _, _, _, _, _, _, _, _]) lay27 rfl rfl rfl rfl rfl rfl rfl rfl rfl rfl ?_)
          refine SOps.st rfl rfl (Yv.assign rfl).yl ?_
          refine SOps.nil ?_
          refine Run.seq ?_
          refine Run.seq ?_
          refine Run.quiet (by intro h; cases h) ?_
          refine QOps.st rfl rfl (Yv.loadBs (i := 0) lay27 rfl rfl rfl rfl).yl ?_
          refine QOps.st rfl rfl (Yv.loadBs (i := 8) lay27 rfl rfl rfl rfl).yl ?_
          refine QOps.st rfl rfl (Yl.call callable19 (.cons rfl (.cons rfl (.nil))) (fun w' hw' => eqConvoy_spec ((Rd.row (i := 1) rfl) w' hw') ((Rd.row (i := 6) rfl) w' hw'))) ?_
          refine QOps.st rfl rfl (Yv.not rfl).yl ?_
          refine QOps.st rfl rfl (Yv.move rfl).yl ?_
          refine' QOps.or [_, _, _] _ (.tmp 52) rfl rfl rfl rfl rfl rfl (fun hg1 => ?_) ?_
          rotate_left
          · try replace hg1 := of_decide_eq_false hg1
            refine QOps.st rfl rfl (Yv.move rfl).yl ?_
            refine QOps.st rfl rfl (Yv.move rfl).yl ?_
            refine QOps.st rfl rfl (Yv.neB bool4 rfl rfl).yl ?_
            exact QOps.nil rfl
          refine QOps.nil ?_
          refine Run.cond rfl (fun hc3 => ?_) (fun hc3 => ?_)
          · exfalso
            first | (simp at hc3; done) | (simp at hc3; omega) | omega
          · try replace hc3 := of_decide_eq_false hc3
            refine Run.skip ?_
            refine Run.seq ?_
            refine Run.seq ?_
            refine Run.draws (fun H => H) (m := 5) (listed := #[false, false, false, false, false]) (by kernel_rfl) rfl rfl ?_
            refine DOps.take (listed' := #[true, false, false, false, false]) 0 rfl (by kernel_rfl) rfl (List.Sublist.refl _) rfl rfl (Yv.loadBs (i := 4) lay27 rfl rfl rfl rfl) ?_
            refine DOps.take (listed' := #[true, true, false, false, false]) 1 rfl (by kernel_rfl) rfl (List.Sublist.refl _) rfl rfl (Yv.loadBs (i := 11) lay24 rfl rfl rfl rfl) ?_
            refine DOps.only (listed' := #[true, true, true, false, false]) 2 rfl (by kernel_rfl) rfl rfl ?_
            refine One.callRow rfl callable17 (.cons rfl (.nil)) (fun w' hw' => toConvoy_spec ((Rd.arg hs) w' hw') (by omega)) (fun A7 c7 => ?_)
            refine ⟨(List.Sublist.cons _ (List.Sublist.refl _)), ?_⟩
            refine DOps.only (listed' := #[true, true, true, true, false]) 3 rfl (by kernel_rfl) rfl rfl ?_
            refine One.st rfl (Yl.call callable19 (.cons rfl (.cons rfl (.nil))) (fun w' hw' => eqConvoy_spec ((Rd.row (i := 6) rfl) w' hw') ((Rd.row (i := 0) rfl) w' hw'))) ?_
            refine ⟨(List.Sublist.cons _ (List.Sublist.refl _)), ?_⟩
            refine DOps.take (listed' := #[true, true, true, true, true]) 4 rfl (by kernel_rfl) rfl (List.Sublist.cons _ (List.Sublist.refl _)) rfl rfl (Yv.not rfl) ?_
            refine DOps.done (by kernel_rfl) ?_
            refine Run.cond rfl (fun hc4 => ?_) (fun hc4 => ?_)
            · exfalso
              first | (simp at hc4; done) | (simp at hc4; omega) | omega
            · try replace hc4 := of_decide_eq_false hc4
              refine Run.skip ?_
              refine Run.seq ?_
              refine Run.seq ?_
              refine Run.draws (fun H => H) (m := 5) (listed := #[false, false, false, false, false]) (by kernel_rfl) rfl rfl ?_
              refine DOps.take (listed' := #[true, false, false, false, false]) 0 rfl (by kernel_rfl) rfl (List.Sublist.refl _) rfl rfl (Yv.loadBs (i := 3) lay27 rfl rfl rfl rfl) ?_
              refine DOps.take (listed' := #[true, true, false, false, false]) 1 rfl (by kernel_rfl) rfl (List.Sublist.refl _) rfl rfl (Yv.loadBs (i := 11) lay24 rfl rfl rfl rfl) ?_
              refine DOps.only (listed' := #[true, true, true, false, false]) 2 rfl (by kernel_rfl) rfl rfl ?_
              refine One.callRow rfl callable17 (.cons rfl (.nil)) (fun w' hw' => toConvoy_spec ((Rd.arg hs2) w' hw') (by omega)) (fun A8 c8 => ?_)
              refine ⟨(List.Sublist.cons _ (List.Sublist.refl _)), ?_⟩
              refine DOps.only (listed' := #[true, true, true, true, false]) 3 rfl (by kernel_rfl) rfl rfl ?_
              refine One.st rfl (Yl.call callable19 (.cons rfl (.cons rfl (.nil))) (fun w' hw' => eqConvoy_spec ((Rd.row (i := 5) rfl) w' hw') ((Rd.row (i := 0) rfl) w' hw'))) ?_
              refine ⟨(List.Sublist.cons _ (List.Sublist.refl _)), ?_⟩
              refine DOps.take (listed' := #[true, true, true, true, true]) 4 rfl (by kernel_rfl) rfl (List.Sublist.cons _ (List.Sublist.refl _)) rfl rfl (Yv.not rfl) ?_
              refine DOps.done (by kernel_rfl) ?_
              refine Run.cond rfl (fun hc5 => ?_) (fun hc5 => ?_)
              · exfalso
                first | (simp at hc5; done) | (simp at hc5; omega) | omega
              · try replace hc5 := of_decide_eq_false hc5
                refine Run.skip ?_
                refine Run.seq ?_
                refine Run.quiet (by intro h; cases h) ?_
                refine QOps.st rfl rfl (Yv.assign rfl).yl ?_
                refine QOps.nil ?_
                refine Run.seq ?_
                refine Run.ops ?_
                refine SOps.st rfl rfl (Yv.loadBs (i := 6) lay27 rfl rfl rfl rfl).yl ?_
                refine SOps.st rfl rfl (Yv.move rfl).yl ?_
                refine SOps.one rfl (One.callMut (i := 7) (H' := [_, _, _, _, _, _, _, _, _, _, _, _, _, _]) rfl callable38 (.cons rfl (.cons rfl (.nil))) rfl (fun w' hw' => markConvoy_spec (hw'.ent _ (List.mem_of_getElem? (i := 7) rfl)) (by omega) (by omega) (by omega)) rfl ?_)
                refine SOps.st rfl rfl (Yv.assign rfl).yl ?_
                refine SOps.nil ?_
                refine Run.seq ?_
                refine Run.ops ?_
                refine SOps.st rfl rfl (Yv.loadBs (i := 4) lay27 rfl rfl rfl rfl).yl ?_
                refine SOps.st rfl rfl (Yv.move rfl).yl ?_
                refine SOps.one rfl (One.callMut (i := 5) (H' := [_, _, _, _, _, _, _, _, _, _, _, _, _, _]) rfl callable38 (.cons rfl (.cons rfl (.nil))) rfl (fun w' hw' => markConvoy_spec (hw'.ent _ (List.mem_of_getElem? (i := 5) rfl)) (by omega) (by omega) (by omega)) rfl ?_)
                refine SOps.st rfl rfl (Yv.assign rfl).yl ?_
                refine SOps.nil ?_
                refine Run.seq ?_
                refine Run.seq ?_
                refine Run.quiet (by intro h; cases h) ?_
                refine QOps.st rfl rfl (Yv.move rfl).yl ?_
                refine QOps.st rfl rfl (Yv.lss rfl rfl).yl ?_
                refine QOps.st rfl rfl (Yv.move rfl).yl ?_
                refine' QOps.or [_, _, _, _] _ (.tmp 76) rfl rfl rfl rfl rfl rfl (fun hg2 => ?_) ?_
                rotate_left
                · try replace hg2 := of_decide_eq_false hg2
                  refine QOps.st rfl rfl (Yv.loadBs (i := 2) lay27 rfl rfl rfl rfl).yl ?_
                  refine QOps.st rfl rfl (Yv.loadBs (i := 10) lay27 rfl rfl rfl rfl).yl ?_
                  refine QOps.st rfl rfl (Yl.call callable19 (.cons rfl (.cons rfl (.nil))) (fun w' hw' => eqConvoy_spec ((Rd.row (i := 3) rfl) w' hw') ((Rd.row (i := 8) rfl) w' hw'))) ?_
                  refine QOps.st rfl rfl (Yv.not rfl).yl ?_
                  exact QOps.nil rfl
                refine QOps.st rfl rfl (Yv.move rfl).yl ?_
                refine' QOps.or [_, _, _] _ (.tmp 81) rfl rfl rfl rfl rfl rfl (fun hg3 => ?_) ?_
                rotate_left
                · try replace hg3 := of_decide_eq_false hg3
                  refine QOps.st rfl rfl (Yv.move rfl).yl ?_
                  refine QOps.st rfl rfl (Yv.move rfl).yl ?_
                  refine QOps.st rfl rfl (Yv.neB bool4 rfl rfl).yl ?_
                  exact QOps.nil rfl
                refine QOps.nil ?_
                refine Run.cond rfl (fun hc6 => ?_) (fun hc6 => ?_)
                · exfalso
                  first | (simp at hc6; done) | (simp at hc6; omega) | omega
                · try replace hc6 := of_decide_eq_false hc6
                  refine Run.skip ?_
                  refine Run.seq ?_
                  refine Run.quiet (by intro h; cases h) ?_
                  refine QOps.st rfl rfl (Yv.assign rfl).yl ?_
                  refine QOps.nil ?_
                  refine Run.seq ?_
                  refine Run.ops ?_
                  refine SOps.st rfl rfl (Yv.loadBs (i := 2) lay27 rfl rfl rfl rfl).yl ?_
                  refine SOps.st rfl rfl (Yv.move rfl).yl ?_
                  refine SOps.one rfl (One.callMut (i := 3) (H' := [_, _, _, _, _, _, _, _, _, _, _, _, _, _]) rfl callable38 (.cons rfl (.cons rfl (.nil))) rfl (fun w' hw' => markConvoy_spec (hw'.ent _ (List.mem_of_getElem? (i := 3) rfl)) (by omega) (by omega) (by omega)) rfl ?_)
                  refine SOps.st rfl rfl (Yv.assign rfl).yl ?_
                  refine SOps.nil ?_
                  refine Run.seq ?_
                  refine Run.quiet (by intro h; cases h) ?_
                  refine QOps.st rfl rfl (Yv.assign rfl).yl ?_
                  refine QOps.nil ?_
                  refine Run.seq ?_
                  refine Run.quiet (by intro h; cases h) ?_
                  refine QOps.st rfl rfl (Yv.loadBs (i := 2) lay27 rfl rfl rfl rfl).yl ?_
                  refine QOps.st rfl rfl (Yv.move rfl).yl ?_
                  refine QOps.st rfl rfl (Yl.call callable39 (.cons rfl (.cons rfl (.nil))) (fun w' hw' => heldConvoy_spec ((Rd.row (i := 3) rfl) w' hw') (by omega) (by omega) (by omega))) ?_
                  refine QOps.st rfl rfl (Yv.assign rfl).yl ?_
                  refine QOps.nil ?_
                  refine Run.seq ?_
                  refine Run.seq ?_
                  refine Run.quiet (by intro h; cases h) ?_
                  refine QOps.st rfl rfl (Yv.move rfl).yl ?_
                  refine QOps.st rfl rfl (Yv.lss rfl rfl).yl ?_
                  refine QOps.nil ?_
                  refine Run.cond rfl (fun hc7 => ?_) (fun hc7 => ?_)
                  · exfalso
                    first | (simp at hc7; done) | (simp at hc7; omega) | omega
                  · try replace hc7 := of_decide_eq_false hc7
                    refine Run.skip ?_
                    refine Run.seq ?_
                    refine Run.seq ?_
                    refine Run.quiet (by intro h; cases h) ?_
                    refine QOps.st rfl rfl (Yv.move rfl).yl ?_
                    refine QOps.st rfl rfl (Yv.move rfl).yl ?_
                    refine QOps.st rfl rfl (Yv.neI rfl rfl).yl ?_
                    refine QOps.nil ?_
                    refine Run.cond rfl (fun hc8 => ?_) (fun hc8 => ?_)
                    · exfalso
                      first | (simp at hc8; done) | (simp at hc8; omega) | omega
                    · try replace hc8 := of_decide_eq_false hc8
                      refine Run.skip ?_
                      refine Run.seq ?_
                      refine Run.draws (fun H => H) (m := 11) (listed := #[false, false, false, false, false, false, false, false, false, false, false]) (by kernel_rfl) rfl rfl ?_
                      refine DOps.take (listed' := #[true, false, false, false, false, false, false, false, false, false, false]) 0 rfl (by kernel_rfl) rfl (List.Sublist.refl _) rfl rfl (Yv.loadBs (i := 13) lay24 rfl rfl rfl rfl) ?_
                      refine DOps.take (listed' := #[true, false, true, false, false, false, false, false, false, false, false]) 2 rfl (by kernel_rfl) rfl (List.Sublist.refl _) rfl rfl (Yv.loadBs (i := 12) lay24 rfl rfl rfl rfl) ?_
                      refine DOps.fork2 (l1 := #[true, true, true, false, false, false, false, false, false, false, false]) (l2 := #[true, false, true, false, false, false, false, false, true, false, false]) 1 8 rfl rfl (by kernel_rfl) rfl rfl rfl rfl ?_ ?_
                      ·
                        refine One.callRow rfl callable17 (.cons rfl (.nil)) (fun w' hw' => toConvoy_spec ((Rd.arg hs) w' hw') (by omega)) (fun A9 c9 => ?_)
                        refine ⟨(List.Sublist.cons _ (List.Sublist.refl _)), ?_⟩
                        refine DOps.fork2 (l1 := #[true, true, true, true, false, false, false, false, false, false, false]) (l2 := #[true, true, true, false, false, false, false, false, true, false, false]) 3 8 rfl rfl (by kernel_rfl) rfl rfl rfl rfl ?_ ?_
                        ·
                          refine One.callRow rfl callable17 (.cons rfl (.nil)) (fun w' hw' => toConvoy_spec ((Rd.arg hs2) w' hw') (by omega)) (fun A10 c10 => ?_)
                          refine ⟨(List.Sublist.cons _ (List.Sublist.cons _ (List.Sublist.refl _))), ?_⟩
                          refine DOps.fork2 (l1 := #[true, true, true, true, true, false, false, false, false, false, false]) (l2 := #[true, true, true, true, false, false, false, false, true, false, false]) 4 8 rfl rfl (by kernel_rfl) rfl rfl rfl rfl ?_ ?_
                          ·
                            refine One.callRow rfl callable37 (.cons rfl (.cons rfl (.nil))) (fun w' hw' => JoinConvoys_spec ((Rd.row (i := 1) rfl) w' hw') ((Rd.row (i := 0) rfl) w' hw') (by omega) (by omega)) (fun A11 c11 => ?_)
                            refine ⟨(List.Sublist.cons _ (List.Sublist.cons _ (List.Sublist.cons _ (List.Sublist.refl _)))), ?_⟩
                            refine DOps.take (listed' := #[true, true, true, true, true, true, false, false, false, false, false]) 5 rfl (by kernel_rfl) rfl (List.Sublist.cons _ (List.Sublist.cons _ (List.Sublist.cons _ (List.Sublist.refl _)))) rfl rfl (Yv.move rfl) ?_
                            refine DOps.take (listed' := #[true, true, true, true, true, true, true, false, false, false, false]) 6 rfl (by kernel_rfl) rfl (List.Sublist.cons _ (List.Sublist.cons _ (List.Sublist.cons _ (List.Sublist.refl _)))) rfl rfl (Yv.extract rfl rfl) ?_
                            refine DOps.take (listed' := #[true, true, true, true, true, true, true, true, false, false, false]) 7 rfl (by kernel_rfl) rfl (List.Sublist.cons _ (List.Sublist.cons _ (List.Sublist.cons _ (List.Sublist.refl _)))) rfl rfl (Yv.extract rfl rfl) ?_
                            refine DOps.only (listed' := #[true, true, true, true, true, true, true, true, true, false, false]) 8 rfl (by kernel_rfl) rfl rfl ?_
                            refine One.alloc rfl zero27 (fun b7 => ?_)
                            refine ⟨(List.Sublist.cons _ (List.Sublist.cons _ (List.Sublist.cons _ (List.Sublist.cons _ (List.Sublist.refl _))))), ?_⟩
                            refine DOps.only (listed' := #[true, true, true, true, true, true, true, true, true, true, false]) 9 rfl (by kernel_rfl) rfl rfl ?_
                            refine One.store (i := 0) (off := 0) (vs := [_, _]) (cs' := [_, _]) (H' := [_, _, _, _, _, _, _, _, _, _, _, _, _, _, _, _, _, _]) lay27 rfl rfl rfl rfl rfl rfl rfl rfl rfl rfl ?_
                            refine ⟨(List.Sublist.cons _ (List.Sublist.cons _ (List.Sublist.cons _ (List.Sublist.cons _ (List.Sublist.refl _))))), ?_⟩
                            refine DOps.take (listed' := #[true, true, true, true, true, true, true, true, true, true, true]) 10 rfl (by kernel_rfl) rfl (List.Sublist.cons _ (List.Sublist.cons _ (List.Sublist.cons _ (List.Sublist.cons _ (List.Sublist.refl _))))) rfl rfl (Yv.assign rfl) ?_
                            refine DOps.done (by kernel_rfl) ?_
                            refine Run.seq ?_
                            refine Run.seq ?_
                            refine Run.quiet (by intro h; cases h) ?_
                            refine QOps.st rfl rfl (Yv.loadBs (i := 0) lay27 rfl rfl rfl rfl).yl ?_
                            refine QOps.st rfl rfl (Yv.loadBs (i := 14) lay27 rfl rfl rfl rfl).yl ?_
                            refine QOps.st rfl rfl (Yl.call callable19 (.cons rfl (.cons rfl (.nil))) (fun w' hw' => eqConvoy_spec ((Rd.row (i := 1) rfl) w' hw') ((Rd.row (i := 12) rfl) w' hw'))) ?_
                            refine QOps.st rfl rfl (Yv.not rfl).yl ?_
                            refine QOps.st rfl rfl (Yv.move rfl).yl ?_
                            refine' QOps.or [_, _, _] _ (.tmp 109) rfl rfl rfl rfl rfl rfl (fun hg4 => ?_) ?_
                            rotate_left
                            · try replace hg4 := of_decide_eq_false hg4
                              refine QOps.st rfl rfl (Yv.move rfl).yl ?_
                              refine QOps.st rfl rfl (Yv.move rfl).yl ?_
                              refine QOps.st rfl rfl (Yv.neB bool4 rfl rfl).yl ?_
                              exact QOps.nil rfl
                            refine QOps.nil ?_
                            refine Run.cond rfl (fun hc9 => ?_) (fun hc9 => ?_)
                            · exfalso
                              first | (simp at hc9; done) | (simp at hc9; omega) | omega
                            · try replace hc9 := of_decide_eq_false hc9
                              refine Run.skip ?_
                              refine Run.seq ?_
                              refine Run.quiet (by intro h; cases h) ?_
                              refine QOps.st rfl rfl (Yv.assign rfl).yl ?_
                              refine QOps.nil ?_
                              refine Run.seq ?_
                              refine Run.quiet (by intro h; cases h) ?_
                              refine QOps.st rfl rfl (Yv.loadBs (i := 6) lay27 rfl rfl rfl rfl).yl ?_
                              refine QOps.st rfl rfl (Yv.move rfl).yl ?_
                              refine QOps.st rfl rfl (Yl.call callable39 (.cons rfl (.cons rfl (.nil))) (fun w' hw' => heldConvoy_spec ((Rd.row (i := 7) rfl) w' hw') (by omega) (by omega) (by omega))) ?_
                              refine QOps.st rfl rfl (Yv.assign rfl).yl ?_
                              refine QOps.nil ?_
                              refine Run.seq ?_
                              refine Run.seq ?_
                              refine Run.quiet (by intro h; cases h) ?_
                              refine QOps.st rfl rfl (Yv.move rfl).yl ?_
                              refine QOps.st rfl rfl (Yv.lss rfl rfl).yl ?_
                              refine QOps.nil ?_
                              refine Run.cond rfl (fun hc10 => ?_) (fun hc10 => ?_)
                              · exfalso
                                first | (simp at hc10; done) | (simp at hc10; omega) | omega
                              · try replace hc10 := of_decide_eq_false hc10
                                refine Run.skip ?_
                                refine Run.seq ?_
                                refine Run.seq ?_
                                refine Run.quiet (by intro h; cases h) ?_
                                refine QOps.st rfl rfl (Yv.move rfl).yl ?_
                                refine QOps.st rfl rfl (Yv.move rfl).yl ?_
                                refine QOps.st rfl rfl (Yv.neI rfl rfl).yl ?_
                                refine QOps.nil ?_
                                refine Run.cond rfl (fun hc11 => ?_) (fun hc11 => ?_)
                                · exfalso
                                  first | (simp at hc11; done) | (simp at hc11; omega) | omega
                                · try replace hc11 := of_decide_eq_false hc11
                                  refine Run.skip ?_
                                  refine Run.seq ?_
                                  refine Run.quiet (by intro h; cases h) ?_
                                  refine QOps.st rfl rfl (Yv.assign rfl).yl ?_
                                  refine QOps.nil ?_
                                  refine Run.ret ?_
                                  refine retQ.of (.inr rfl) rfl (.tmp rfl .nil) (fun w' hw' => ?_)
                                  refine ⟨?_, hw'.bel.below⟩
                                  exact rfl
                          ·
                            refine One.alloc rfl zero27 (fun b7 => ?_)
                            refine ⟨(List.Sublist.cons _ (List.Sublist.cons _ (List.Sublist.cons _ (List.Sublist.refl _)))), ?_⟩
                            refine DOps.only (listed' := #[true, true, true, true, true, false, false, false, true, false, false]) 4 rfl (by kernel_rfl) rfl rfl ?_
                            refine One.callRow rfl callable37 (.cons rfl (.cons rfl (.nil))) (fun w' hw' => JoinConvoys_spec ((Rd.row (i := 2) rfl) w' hw') ((Rd.row (i := 1) rfl) w' hw') (by omega) (by omega)) (fun A11 c11 => ?_)
                            refine ⟨(List.Sublist.cons _ (List.Sublist.cons _ (List.Sublist.cons _ (List.Sublist.cons _ (List.Sublist.refl _))))), ?_⟩
                            refine DOps.take (listed' := #[true, true, true, true, true, true, false, false, true, false, false]) 5 rfl (by kernel_rfl) rfl (List.Sublist.cons _ (List.Sublist.cons _ (List.Sublist.cons _ (List.Sublist.cons _ (List.Sublist.refl _))))) rfl rfl (Yv.move rfl) ?_
                            refine DOps.take (listed' := #[true, true, true, true, true, true, true, false, true, false, false]) 6 rfl (by kernel_rfl) rfl (List.Sublist.cons _ (List.Sublist.cons _ (List.Sublist.cons _ (List.Sublist.cons _ (List.Sublist.refl _))))) rfl rfl (Yv.extract rfl rfl) ?_
                            refine DOps.take (listed' := #[true, true, true, true, true, true, true, true, true, false, false]) 7 rfl (by kernel_rfl) rfl (List.Sublist.cons _ (List.Sublist.cons _ (List.Sublist.cons _ (List.Sublist.cons _ (List.Sublist.refl _))))) rfl rfl (Yv.extract rfl rfl) ?_
                            refine DOps.only (listed' := #[true, true, true, true, true, true, true, true, true, true, false]) 9 rfl (by kernel_rfl) rfl rfl ?_
                            refine One.store (i := 1) (off := 0) (vs := [_, _]) (cs' := [_, _]) (H' := [_, _, _, _, _, _, _, _, _, _, _, _, _, _, _, _, _, _]) lay27 rfl rfl rfl rfl rfl rfl rfl rfl rfl rfl ?_
                            refine ⟨(List.Sublist.cons _ (List.Sublist.cons _ (List.Sublist.cons _ (List.Sublist.cons _ (List.Sublist.refl _))))), ?_⟩
                            refine DOps.take (listed' := #[true, true, true, true, true, true, true, true, true, true, true]) 10 rfl (by kernel_rfl) rfl (List.Sublist.cons _ (List.Sublist.cons _ (List.Sublist.cons _ (List.Sublist.cons _ (List.Sublist.refl _))))) rfl rfl (Yv.assign rfl) ?_
                            refine DOps.done (by kernel_rfl) ?_
                            refine Run.seq ?_
                            refine Run.seq ?_
                            refine Run.quiet (by intro h; cases h) ?_
                            refine QOps.st rfl rfl (Yv.loadBs (i := 1) lay27 rfl rfl rfl rfl).yl ?_
                            refine QOps.st rfl rfl (Yv.loadBs (i := 14) lay27 rfl rfl rfl rfl).yl ?_
                            refine QOps.st rfl rfl (Yl.call callable19 (.cons rfl (.cons rfl (.nil))) (fun w' hw' => eqConvoy_spec ((Rd.row (i := 0) rfl) w' hw') ((Rd.row (i := 12) rfl) w' hw'))) ?_
                            refine QOps.st rfl rfl (Yv.not rfl).yl ?_
                            refine QOps.st rfl rfl (Yv.move rfl).yl ?_
                            refine' QOps.or [_, _, _] _ (.tmp 109) rfl rfl rfl rfl rfl rfl (fun hg4 => ?_) ?_
                            rotate_left
                            · try replace hg4 := of_decide_eq_false hg4
                              refine QOps.st rfl rfl (Yv.move rfl).yl ?_
                              refine QOps.st rfl rfl (Yv.move rfl).yl ?_
                              refine QOps.st rfl rfl (Yv.neB bool4 rfl rfl).yl ?_
                              exact QOps.nil rfl
                            refine QOps.nil ?_
                            refine Run.cond rfl (fun hc9 => ?_) (fun hc9 => ?_)
                            · exfalso
                              first | (simp at hc9; done) | (simp at hc9; omega) | omega
                            · try replace hc9 := of_decide_eq_false hc9
                              refine Run.skip ?_
                              refine Run.seq ?_
                              refine Run.quiet (by intro h; cases h) ?_
                              refine QOps.st rfl rfl (Yv.assign rfl).yl ?_
                              refine QOps.nil ?_
                              refine Run.seq ?_
                              refine Run.quiet (by intro h; cases h) ?_
                              refine QOps.st rfl rfl (Yv.loadBs (i := 6) lay27 rfl rfl rfl rfl).yl ?_
                              refine QOps.st rfl rfl (Yv.move rfl).yl ?_
                              refine QOps.st rfl rfl (Yl.call callable39 (.cons rfl (.cons rfl (.nil))) (fun w' hw' => heldConvoy_spec ((Rd.row (i := 7) rfl) w' hw') (by omega) (by omega) (by omega))) ?_
                              refine QOps.st rfl rfl (Yv.assign rfl).yl ?_
                              refine QOps.nil ?_
                              refine Run.seq ?_
                              refine Run.seq ?_
                              refine Run.quiet (by intro h; cases h) ?_
                              refine QOps.st rfl rfl (Yv.move rfl).yl ?_
                              refine QOps.st rfl rfl (Yv.lss rfl rfl).yl ?_
                              refine QOps.nil ?_
                              refine Run.cond rfl (fun hc10 => ?_) (fun hc10 => ?_)
                              · exfalso
                                first | (simp at hc10; done) | (simp at hc10; omega) | omega
                              · try replace hc10 := of_decide_eq_false hc10
                                refine Run.skip ?_
                                refine Run.seq ?_
                                refine Run.seq ?_
                                refine Run.quiet (by intro h; cases h) ?_
                                refine QOps.st rfl rfl (Yv.move rfl).yl ?_
                                refine QOps.st rfl rfl (Yv.move rfl).yl ?_
                                refine QOps.st rfl rfl (Yv.neI rfl rfl).yl ?_
                                refine QOps.nil ?_
                                refine Run.cond rfl (fun hc11 => ?_) (fun hc11 => ?_)
                                · exfalso
                                  first | (simp at hc11; done) | (simp at hc11; omega) | omega
                                · try replace hc11 := of_decide_eq_false hc11
                                  refine Run.skip ?_
                                  refine Run.seq ?_
                                  refine Run.quiet (by intro h; cases h) ?_
                                  refine QOps.st rfl rfl (Yv.assign rfl).yl ?_
                                  refine QOps.nil ?_
                                  refine Run.ret ?_
                                  refine retQ.of (.inr rfl) rfl (.tmp rfl .nil) (fun w' hw' => ?_)
                                  refine ⟨?_, hw'.bel.below⟩
                                  exact rfl
                        ·
                          refine One.alloc rfl zero27 (fun b7 => ?_)
                          refine ⟨(List.Sublist.cons _ (List.Sublist.cons _ (List.Sublist.refl _))), ?_⟩
                          refine DOps.only (listed' := #[true, true, true, true, false, false, false, false, true, false, false]) 3 rfl (by kernel_rfl) rfl rfl ?_
                          refine One.callRow rfl callable17 (.cons rfl (.nil)) (fun w' hw' => toConvoy_spec ((Rd.arg hs2) w' hw') (by omega)) (fun A10 c10 => ?_)
                          refine ⟨(List.Sublist.cons _ (List.Sublist.cons _ (List.Sublist.cons _ (List.Sublist.refl _)))), ?_⟩
                          refine DOps.only (listed' := #[true, true, true, true, true, false, false, false, true, false, false]) 4 rfl (by kernel_rfl) rfl rfl ?_
                          refine One.callRow rfl callable37 (.cons rfl (.cons rfl (.nil))) (fun w' hw' => JoinConvoys_spec ((Rd.row (i := 2) rfl) w' hw') ((Rd.row (i := 0) rfl) w' hw') (by omega) (by omega)) (fun A11 c11 => ?_)
                          refine ⟨(List.Sublist.cons _ (List.Sublist.cons _ (List.Sublist.cons _ (List.Sublist.cons _ (List.Sublist.refl _))))), ?_⟩
                          refine DOps.take (listed' := #[true, true, true, true, true, true, false, false, true, false, false]) 5 rfl (by kernel_rfl) rfl (List.Sublist.cons _ (List.Sublist.cons _ (List.Sublist.cons _ (List.Sublist.cons _ (List.Sublist.refl _))))) rfl rfl (Yv.move rfl) ?_
                          refine DOps.take (listed' := #[true, true, true, true, true, true, true, false, true, false, false]) 6 rfl (by kernel_rfl) rfl (List.Sublist.cons _ (List.Sublist.cons _ (List.Sublist.cons _ (List.Sublist.cons _ (List.Sublist.refl _))))) rfl rfl (Yv.extract rfl rfl) ?_
                          refine DOps.take (listed' := #[true, true, true, true, true, true, true, true, true, false, false]) 7 rfl (by kernel_rfl) rfl (List.Sublist.cons _ (List.Sublist.cons _ (List.Sublist.cons _ (List.Sublist.cons _ (List.Sublist.refl _))))) rfl rfl (Yv.extract rfl rfl) ?_
                          refine DOps.only (listed' := #[true, true, true, true, true, true, true, true, true, true, false]) 9 rfl (by kernel_rfl) rfl rfl ?_
                          refine One.store (i := 2) (off := 0) (vs := [_, _]) (cs' := [_, _]) (H' := [_, _, _, _, _, _, _, _, _, _, _, _, _, _, _, _, _, _]) lay27 rfl rfl rfl rfl rfl rfl rfl rfl rfl rfl ?_
                          refine ⟨(List.Sublist.cons _ (List.Sublist.cons _ (List.Sublist.cons _ (List.Sublist.cons _ (List.Sublist.refl _))))), ?_⟩
                          refine DOps.take (listed' := #[true, true, true, true, true, true, true, true, true, true, true]) 10 rfl (by kernel_rfl) rfl (List.Sublist.cons _ (List.Sublist.cons _ (List.Sublist.cons _ (List.Sublist.cons _ (List.Sublist.refl _))))) rfl rfl (Yv.assign rfl) ?_
                          refine DOps.done (by kernel_rfl) ?_
                          refine Run.seq ?_
                          refine Run.seq ?_
                          refine Run.quiet (by intro h; cases h) ?_
                          refine QOps.st rfl rfl (Yv.loadBs (i := 2) lay27 rfl rfl rfl rfl).yl ?_
                          refine QOps.st rfl rfl (Yv.loadBs (i := 14) lay27 rfl rfl rfl rfl).yl ?_
                          refine QOps.st rfl rfl (Yl.call callable19 (.cons rfl (.cons rfl (.nil))) (fun w' hw' => eqConvoy_spec ((Rd.row (i := 0) rfl) w' hw') ((Rd.row (i := 12) rfl) w' hw'))) ?_
                          refine QOps.st rfl rfl (Yv.not rfl).yl ?_
                          refine QOps.st rfl rfl (Yv.move rfl).yl ?_
                          refine' QOps.or [_, _, _] _ (.tmp 109) rfl rfl rfl rfl rfl rfl (fun hg4 => ?_) ?_
                          rotate_left
                          · try replace hg4 := of_decide_eq_false hg4
                            refine QOps.st rfl rfl (Yv.move rfl).yl ?_
                            refine QOps.st rfl rfl (Yv.move rfl).yl ?_
                            refine QOps.st rfl rfl (Yv.neB bool4 rfl rfl).yl ?_
                            exact QOps.nil rfl
                          refine QOps.nil ?_
                          refine Run.cond rfl (fun hc9 => ?_) (fun hc9 => ?_)
                          · exfalso
                            first | (simp at hc9; done) | (simp at hc9; omega) | omega
                          · try replace hc9 := of_decide_eq_false hc9
                            refine Run.skip ?_
                            refine Run.seq ?_
                            refine Run.quiet (by intro h; cases h) ?_
                            refine QOps.st rfl rfl (Yv.assign rfl).yl ?_
                            refine QOps.nil ?_
                            refine Run.seq ?_
                            refine Run.quiet (by intro h; cases h) ?_
                            refine QOps.st rfl rfl (Yv.loadBs (i := 6) lay27 rfl rfl rfl rfl).yl ?_
                            refine QOps.st rfl rfl (Yv.move rfl).yl ?_
                            refine QOps.st rfl rfl (Yl.call callable39 (.cons rfl (.cons rfl (.nil))) (fun w' hw' => heldConvoy_spec ((Rd.row (i := 7) rfl) w' hw') (by omega) (by omega) (by omega))) ?_
                            refine QOps.st rfl rfl (Yv.assign rfl).yl ?_
                            refine QOps.nil ?_
                            refine Run.seq ?_
                            refine Run.seq ?_
                            refine Run.quiet (by intro h; cases h) ?_
                            refine QOps.st rfl rfl (Yv.move rfl).yl ?_
                            refine QOps.st rfl rfl (Yv.lss rfl rfl).yl ?_
                            refine QOps.nil ?_
                            refine Run.cond rfl (fun hc10 => ?_) (fun hc10 => ?_)
                            · exfalso
                              first | (simp at hc10; done) | (simp at hc10; omega) | omega
                            · try replace hc10 := of_decide_eq_false hc10
                              refine Run.skip ?_
                              refine Run.seq ?_
                              refine Run.seq ?_
                              refine Run.quiet (by intro h; cases h) ?_
                              refine QOps.st rfl rfl (Yv.move rfl).yl ?_
                              refine QOps.st rfl rfl (Yv.move rfl).yl ?_
                              refine QOps.st rfl rfl (Yv.neI rfl rfl).yl ?_
                              refine QOps.nil ?_
                              refine Run.cond rfl (fun hc11 => ?_) (fun hc11 => ?_)
                              · exfalso
                                first | (simp at hc11; done) | (simp at hc11; omega) | omega
                              · try replace hc11 := of_decide_eq_false hc11
                                refine Run.skip ?_
                                refine Run.seq ?_
                                refine Run.quiet (by intro h; cases h) ?_
                                refine QOps.st rfl rfl (Yv.assign rfl).yl ?_
                                refine QOps.nil ?_
                                refine Run.ret ?_
                                refine retQ.of (.inr rfl) rfl (.tmp rfl .nil) (fun w' hw' => ?_)
                                refine ⟨?_, hw'.bel.below⟩
                                exact rfl
                      ·
                        refine One.alloc rfl zero27 (fun b7 => ?_)
                        refine ⟨(List.Sublist.cons _ (List.Sublist.refl _)), ?_⟩
                        refine DOps.only (listed' := #[true, true, true, false, false, false, false, false, true, false, false]) 1 rfl (by kernel_rfl) rfl rfl ?_
                        refine One.callRow rfl callable17 (.cons rfl (.nil)) (fun w' hw' => toConvoy_spec ((Rd.arg hs) w' hw') (by omega)) (fun A9 c9 => ?_)
                        refine ⟨(List.Sublist.cons _ (List.Sublist.cons _ (List.Sublist.refl _))), ?_⟩
                        refine DOps.only (listed' := #[true, true, true, true, false, false, false, false, true, false, false]) 3 rfl (by kernel_rfl) rfl rfl ?_
                        refine One.callRow rfl callable17 (.cons rfl (.nil)) (fun w' hw' => toConvoy_spec ((Rd.arg hs2) w' hw') (by omega)) (fun A10 c10 => ?_)
                        refine ⟨(List.Sublist.cons _ (List.Sublist.cons _ (List.Sublist.cons _ (List.Sublist.refl _)))), ?_⟩
                        refine DOps.only (listed' := #[true, true, true, true, true, false, false, false, true, false, false]) 4 rfl (by kernel_rfl) rfl rfl ?_
                        refine One.callRow rfl callable37 (.cons rfl (.cons rfl (.nil))) (fun w' hw' => JoinConvoys_spec ((Rd.row (i := 1) rfl) w' hw') ((Rd.row (i := 0) rfl) w' hw') (by omega) (by omega)) (fun A11 c11 => ?_)
                        refine ⟨(List.Sublist.cons _ (List.Sublist.cons _ (List.Sublist.cons _ (List.Sublist.cons _ (List.Sublist.refl _))))), ?_⟩
                        refine DOps.take (listed' := #[true, true, true, true, true, true, false, false, true, false, false]) 5 rfl (by kernel_rfl) rfl (List.Sublist.cons _ (List.Sublist.cons _ (List.Sublist.cons _ (List.Sublist.cons _ (List.Sublist.refl _))))) rfl rfl (Yv.move rfl) ?_
                        refine DOps.take (listed' := #[true, true, true, true, true, true, true, false, true, false, false]) 6 rfl (by kernel_rfl) rfl (List.Sublist.cons _ (List.Sublist.cons _ (List.Sublist.cons _ (List.Sublist.cons _ (List.Sublist.refl _))))) rfl rfl (Yv.extract rfl rfl) ?_
                        refine DOps.take (listed' := #[true, true, true, true, true, true, true, true, true, false, false]) 7 rfl (by kernel_rfl) rfl (List.Sublist.cons _ (List.Sublist.cons _ (List.Sublist.cons _ (List.Sublist.cons _ (List.Sublist.refl _))))) rfl rfl (Yv.extract rfl rfl) ?_
                        refine DOps.only (listed' := #[true, true, true, true, true, true, true, true, true, true, false]) 9 rfl (by kernel_rfl) rfl rfl ?_
                        refine One.store (i := 3) (off := 0) (vs := [_, _]) (cs' := [_, _]) (H' := [_, _, _, _, _, _, _, _, _, _, _, _, _, _, _, _, _, _]) lay27 rfl rfl rfl rfl rfl rfl rfl rfl rfl rfl ?_
                        refine ⟨(List.Sublist.cons _ (List.Sublist.cons _ (List.Sublist.cons _ (List.Sublist.cons _ (List.Sublist.refl _))))), ?_⟩
                        refine DOps.take (listed' := #[true, true, true, true, true, true, true, true, true, true, true]) 10 rfl (by kernel_rfl) rfl (List.Sublist.cons _ (List.Sublist.cons _ (List.Sublist.cons _ (List.Sublist.cons _ (List.Sublist.refl _))))) rfl rfl (Yv.assign rfl) ?_
                        refine DOps.done (by kernel_rfl) ?_
                        refine Run.seq ?_
                        refine Run.seq ?_
                        refine Run.quiet (by intro h; cases h) ?_
                        refine QOps.st rfl rfl (Yv.loadBs (i := 3) lay27 rfl rfl rfl rfl).yl ?_
                        refine QOps.st rfl rfl (Yv.loadBs (i := 14) lay27 rfl rfl rfl rfl).yl ?_
                        refine QOps.st rfl rfl (Yl.call callable19 (.cons rfl (.cons rfl (.nil))) (fun w' hw' => eqConvoy_spec ((Rd.row (i := 0) rfl) w' hw') ((Rd.row (i := 12) rfl) w' hw'))) ?_
                        refine QOps.st rfl rfl (Yv.not rfl).yl ?_
                        refine QOps.st rfl rfl (Yv.move rfl).yl ?_
                        refine' QOps.or [_, _, _] _ (.tmp 109) rfl rfl rfl rfl rfl rfl (fun hg4 => ?_) ?_
                        rotate_left
                        · try replace hg4 := of_decide_eq_false hg4
                          refine QOps.st rfl rfl (Yv.move rfl).yl ?_
                          refine QOps.st rfl rfl (Yv.move rfl).yl ?_
                          refine QOps.st rfl rfl (Yv.neB bool4 rfl rfl).yl ?_
                          exact QOps.nil rfl
                        refine QOps.nil ?_
                        refine Run.cond rfl (fun hc9 => ?_) (fun hc9 => ?_)
                        · exfalso
                          first | (simp at hc9; done) | (simp at hc9; omega) | omega
                        · try replace hc9 := of_decide_eq_false hc9
                          refine Run.skip ?_
                          refine Run.seq ?_
                          refine Run.quiet (by intro h; cases h) ?_
                          refine QOps.st rfl rfl (Yv.assign rfl).yl ?_
                          refine QOps.nil ?_
                          refine Run.seq ?_
                          refine Run.quiet (by intro h; cases h) ?_
                          refine QOps.st rfl rfl (Yv.loadBs (i := 6) lay27 rfl rfl rfl rfl).yl ?_
                          refine QOps.st rfl rfl (Yv.move rfl).yl ?_
                          refine QOps.st rfl rfl (Yl.call callable39 (.cons rfl (.cons rfl (.nil))) (fun w' hw' => heldConvoy_spec ((Rd.row (i := 7) rfl) w' hw') (by omega) (by omega) (by omega))) ?_
                          refine QOps.st rfl rfl (Yv.assign rfl).yl ?_
                          refine QOps.nil ?_
                          refine Run.seq ?_
                          refine Run.seq ?_
                          refine Run.quiet (by intro h; cases h) ?_
                          refine QOps.st rfl rfl (Yv.move rfl).yl ?_
                          refine QOps.st rfl rfl (Yv.lss rfl rfl).yl ?_
                          refine QOps.nil ?_
                          refine Run.cond rfl (fun hc10 => ?_) (fun hc10 => ?_)
                          · exfalso
                            first | (simp at hc10; done) | (simp at hc10; omega) | omega
                          · try replace hc10 := of_decide_eq_false hc10
                            refine Run.skip ?_
                            refine Run.seq ?_
                            refine Run.seq ?_
                            refine Run.quiet (by intro h; cases h) ?_
                            refine QOps.st rfl rfl (Yv.move rfl).yl ?_
                            refine QOps.st rfl rfl (Yv.move rfl).yl ?_
                            refine QOps.st rfl rfl (Yv.neI rfl rfl).yl ?_
                            refine QOps.nil ?_
                            refine Run.cond rfl (fun hc11 => ?_) (fun hc11 => ?_)
                            · exfalso
                              first | (simp at hc11; done) | (simp at hc11; omega) | omega
                            · try replace hc11 := of_decide_eq_false hc11
                              refine Run.skip ?_
                              refine Run.seq ?_
                              refine Run.quiet (by intro h; cases h) ?_
                              refine QOps.st rfl rfl (Yv.assign rfl).yl ?_
                              refine QOps.nil ?_
                              refine Run.ret ?_
                              refine retQ.of (.inr rfl) rfl (.tmp rfl .nil) (fun w' hw' => ?_)
                              refine ⟨?_, hw'.bel.below⟩
                              exact rfl
      ·
        refine One.alloc rfl zero27 (fun b3 => ?_)
        refine ⟨(List.Sublist.cons _ (List.Sublist.refl _)), ?_⟩
        refine DOps.only (listed' := #[true, true, true, false, false, false, false, false, true, false, false]) 1 rfl (by kernel_rfl) rfl rfl ?_
        refine One.callRow rfl callable17 (.cons rfl (.nil)) (fun w' hw' => toConvoy_spec ((Rd.arg hs) w' hw') (by omega)) (fun A1 c1 => ?_)
        refine ⟨(List.Sublist.cons _ (List.Sublist.cons _ (List.Sublist.refl _))), ?_⟩
        refine DOps.only (listed' := #[true, true, true, true, false, false, false, false, true, false, false]) 3 rfl (by kernel_rfl) rfl rfl ?_
        refine One.callRow rfl callable17 (.cons rfl (.nil)) (fun w' hw' => toConvoy_spec ((Rd.arg hs2) w' hw') (by omega)) (fun A2 c2 => ?_)
        refine ⟨(List.Sublist.cons _ (List.Sublist.cons _ (List.Sublist.cons _ (List.Sublist.refl _)))), ?_⟩
        refine DOps.only (listed' := #[true, true, true, true, true, false, false, false, true, false, false]) 4 rfl (by kernel_rfl) rfl rfl ?_
        refine One.callRow rfl callable36 (.cons rfl (.cons rfl (.nil))) (fun w' hw' => sJoinConvoys_spec ((Rd.row (i := 1) rfl) w' hw') ((Rd.row (i := 0) rfl) w' hw') (by omega) (by omega)) (fun A3 c3 => ?_)
        refine ⟨(List.Sublist.cons _ (List.Sublist.cons _ (List.Sublist.cons _ (List.Sublist.cons _ (List.Sublist.refl _))))), ?_⟩
        refine DOps.take (listed' := #[true, true, true, true, true, true, false, false, true, false, false]) 5 rfl (by kernel_rfl) rfl (List.Sublist.cons _ (List.Sublist.cons _ (List.Sublist.cons _ (List.Sublist.cons _ (List.Sublist.refl _))))) rfl rfl (Yv.move rfl) ?_
        refine DOps.take (listed' := #[true, true, true, true, true, true, true, false, true, false, false]) 6 rfl (by kernel_rfl) rfl (List.Sublist.cons _ (List.Sublist.cons _ (List.Sublist.cons _ (List.Sublist.cons _ (List.Sublist.refl _))))) rfl rfl (Yv.extract rfl rfl) ?_
        refine DOps.take (listed' := #[true, true, true, true, true, true, true, true, true, false, false]) 7 rfl (by kernel_rfl) rfl (List.Sublist.cons _ (List.Sublist.cons _ (List.Sublist.cons _ (List.Sublist.cons _ (List.Sublist.refl _))))) rfl rfl (Yv.extract rfl rfl) ?_
        refine DOps.only (listed' := #[true, true, true, true, true, true, true, true, true, true, false]) 9 rfl (by kernel_rfl) rfl rfl ?_
        refine One.store (i := 3) (off := 0) (vs := [_, _]) (cs' := [_, _]) (H' := [_, _, _, _, _, _]) lay27 rfl rfl rfl rfl rfl rfl rfl rfl rfl rfl ?_
        refine ⟨(List.Sublist.cons _ (List.Sublist.cons _ (List.Sublist.cons _ (List.Sublist.cons _ (List.Sublist.refl _))))), ?_⟩
        refine DOps.take (listed' := #[true, true, true, true, true, true, true, true, true, true, true]) 10 rfl (by kernel_rfl) rfl (List.Sublist.cons _ (List.Sublist.cons _ (List.Sublist.cons _ (List.Sublist.cons _ (List.Sublist.refl _))))) rfl rfl (Yv.assign rfl) ?_
        refine DOps.done (by kernel_rfl) ?_
        refine Run.seq ?_
        refine Run.ops ?_
        refine SOps.st rfl rfl (Yv.loadBs (i := 5) lay24 rfl rfl rfl rfl).yl ?_
        refine SOps.one rfl (One.callRow rfl callable17 (.cons rfl (.nil)) (fun w' hw' => toConvoy_spec ((Rd.arg hs) w' hw') (by omega)) (fun A4 c4 => ?_))
        refine SOps.one rfl (One.alloc rfl zero27 (fun b4 => ?_))
        refine SOps.one rfl (One.store (i := 0) (off := 0) (vs := [_, _]) (cs' := [_, _]) (H' := [_, _, _, _, _, _, _, _]) lay27 rfl rfl rfl rfl rfl rfl rfl rfl rfl rfl ?_)
        refine SOps.nil ?_
        refine Run.seq ?_
        refine Run.ops ?_
        refine SOps.st rfl rfl (Yv.loadBs (i := 6) lay24 rfl rfl rfl rfl).yl ?_
        refine SOps.one rfl (One.callRow rfl callable17 (.cons rfl (.nil)) (fun w' hw' => toConvoy_spec ((Rd.arg hs2) w' hw') (by omega)) (fun A5 c5 => ?_))
        refine SOps.one rfl (One.alloc rfl zero27 (fun b5 => ?_))
        refine SOps.one rfl (One.store (i := 0) (off := 0) (vs := [_, _]) (cs' := [_, _]) (H' := [_, _, _, _, _, _, _, _, _, _]) lay27 rfl rfl rfl rfl rfl rfl rfl rfl rfl rfl ?_)
        refine SOps.nil ?_
        refine Run.seq ?_
        refine Run.ops ?_
        refine SOps.st rfl rfl (Yv.loadBs (i := 2) lay27 rfl rfl rfl rfl).yl ?_
        refine SOps.st rfl rfl (Yv.loadBs (i := 0) lay27 rfl rfl rfl rfl).yl ?_
        refine SOps.one rfl (One.callRow rfl callable37 (.cons rfl (.cons rfl (.nil))) (fun w' hw' => JoinConvoys_spec ((Rd.row (i := 3) rfl) w' hw') ((Rd.row (i := 1) rfl) w' hw') (by omega) (by omega)) (fun A6 c6 => ?_))
        refine SOps.st rfl rfl (Yv.move rfl).yl ?_
        refine SOps.st rfl rfl (Yv.extract rfl rfl).yl ?_
        refine SOps.st rfl rfl (Yv.extract rfl rfl).yl ?_
        refine SOps.one rfl (One.alloc rfl zero27 (fun b6 => ?_))
        refine SOps.one rfl (One.store (i := 0) (off := 0) (vs := [_, _]) (cs' := [_, _]) (H' := [_, _, _, _, _, _, _, _, _, _, _, _]) lay27 rfl rfl rfl rfl rfl rfl rfl rfl rfl rfl ?_)
        refine SOps.st rfl rfl (Yv.assign rfl).yl ?_
        refine SOps.nil ?_
        refine Run.seq ?_
        refine Run.seq ?_
        refine Run.quiet (by intro h; cases h) ?_
        refine QOps.st rfl rfl (Yv.loadBs (i := 0) lay27 rfl rfl rfl rfl).yl ?_
        refine QOps.st rfl rfl (Yv.loadBs (i := 9) lay27 rfl rfl rfl rfl).yl ?_
        refine QOps.st rfl rfl (Yl.call callable19 (.cons rfl (.cons rfl (.nil))) (fun w' hw' => eqConvoy_spec ((Rd.row (i := 1) rfl) w' hw') ((Rd.row (i := 6) rfl) w' hw'))) ?_
        refine QOps.st rfl rfl (Yv.not rfl).yl ?_
        refine QOps.st rfl rfl (Yv.move rfl).yl ?_
        refine' QOps.or [_, _, _] _ (.tmp 52) rfl rfl rfl rfl rfl rfl (fun hg1 => ?_) ?_
        rotate_left
        · try replace hg1 := of_decide_eq_false hg1
          refine QOps.st rfl rfl (Yv.move rfl).yl ?_
          refine QOps.st rfl rfl (Yv.move rfl).yl ?_
          refine QOps.st rfl rfl (Yv.neB bool4 rfl rfl).yl ?_
          exact QOps.nil rfl
        refine QOps.nil ?_
        refine Run.cond rfl (fun hc3 => ?_) (fun hc3 => ?_)
        · exfalso
          first | (simp at hc3; done) | (simp at hc3; omega) | omega
        · try replace hc3 := of_decide_eq_false hc3
          refine Run.skip ?_
          refine Run.seq ?_
          refine Run.seq ?_
          refine Run.draws (fun H => H) (m := 5) (listed := #[false, false, false, false, false]) (by kernel_rfl) rfl rfl ?_
          refine DOps.take (listed' := #[true, false, false, false, false]) 0 rfl (by kernel_rfl) rfl (List.Sublist.refl _) rfl rfl (Yv.loadBs (i := 4) lay27 rfl rfl rfl rfl) ?_
          refine DOps.take (listed' := #[true, true, false, false, false]) 1 rfl (by kernel_rfl) rfl (List.Sublist.refl _) rfl rfl (Yv.loadBs (i := 11) lay24 rfl rfl rfl rfl) ?_
          refine DOps.only (listed' := #[true, true, true, false, false]) 2 rfl (by kernel_rfl) rfl rfl ?_
          refine One.callRow rfl callable17 (.cons rfl (.nil)) (fun w' hw' => toConvoy_spec ((Rd.arg hs) w' hw') (by omega)) (fun A7 c7 => ?_)
          refine ⟨(List.Sublist.cons _ (List.Sublist.refl _)), ?_⟩
          refine DOps.only (listed' := #[true, true, true, true, false]) 3 rfl (by kernel_rfl) rfl rfl ?_
          refine One.st rfl (Yl.call callable19 (.cons rfl (.cons rfl (.nil))) (fun w' hw' => eqConvoy_spec ((Rd.row (i := 6) rfl) w' hw') ((Rd.row (i := 0) rfl) w' hw'))) ?_
          refine ⟨(List.Sublist.cons _ (List.Sublist.refl _)), ?_⟩
          refine DOps.take (listed' := #[true, true, true, true, true]) 4 rfl (by kernel_rfl) rfl (List.Sublist.cons _ (List.Sublist.refl _)) rfl rfl (Yv.not rfl) ?_
          refine DOps.done (by kernel_rfl) ?_
          refine Run.cond rfl (fun hc4 => ?_) (fun hc4 => ?_)
          · exfalso
            first | (simp at hc4; done) | (simp at hc4; omega) | omega
          · try replace hc4 := of_decide_eq_false hc4
            refine Run.skip ?_
            refine Run.seq ?_
            refine Run.seq ?_
            refine Run.draws (fun H => H) (m := 5) (listed := #[false, false, false, false, false]) (by kernel_rfl) rfl rfl ?_
            refine DOps.take (listed' := #[true, false, false, false, false]) 0 rfl (by kernel_rfl) rfl (List.Sublist.refl _) rfl rfl (Yv.loadBs (i := 3) lay27 rfl rfl rfl rfl) ?_
            refine DOps.take (listed' := #[true, true, false, false, false]) 1 rfl (by kernel_rfl) rfl (List.Sublist.refl _) rfl rfl (Yv.loadBs (i := 11) lay24 rfl rfl rfl rfl) ?_
            refine DOps.only (listed' := #[true, true, true, false, false]) 2 rfl (by kernel_rfl) rfl rfl ?_
            refine One.callRow rfl callable17 (.cons rfl (.nil)) (fun w' hw' => toConvoy_spec ((Rd.arg hs2) w' hw') (by omega)) (fun A8 c8 => ?_)
            refine ⟨(List.Sublist.cons _ (List.Sublist.refl _)), ?_⟩
            refine DOps.only (listed' := #[true, true, true, true, false]) 3 rfl (by kernel_rfl) rfl rfl ?_
            refine One.st rfl (Yl.call callable19 (.cons rfl (.cons rfl (.nil))) (fun w' hw' => eqConvoy_spec ((Rd.row (i := 5) rfl) w' hw') ((Rd.row (i := 0) rfl) w' hw'))) ?_
            refine ⟨(List.Sublist.cons _ (List.Sublist.refl _)), ?_⟩
            refine DOps.take (listed' := #[true, true, true, true, true]) 4 rfl (by kernel_rfl) rfl (List.Sublist.cons _ (List.Sublist.refl _)) rfl rfl (Yv.not rfl) ?_
            refine DOps.done (by kernel_rfl) ?_
            refine Run.cond rfl (fun hc5 => ?_) (fun hc5 => ?_)
            · exfalso
              first | (simp at hc5; done) | (simp at hc5; omega) | omega
            · try replace hc5 := of_decide_eq_false hc5
              refine Run.skip ?_
              refine Run.seq ?_
              refine Run.quiet (by intro h; cases h) ?_
              refine QOps.st rfl rfl (Yv.assign rfl).yl ?_
              refine QOps.nil ?_
              refine Run.seq ?_
              refine Run.ops ?_
              refine SOps.st rfl rfl (Yv.loadBs (i := 6) lay27 rfl rfl rfl rfl).yl ?_
              refine SOps.st rfl rfl (Yv.move rfl).yl ?_
              refine SOps.one rfl (One.callMut (i := 7) (H' := [_, _, _, _, _, _, _, _, _, _, _, _, _, _]) rfl callable38 (.cons rfl (.cons rfl (.nil))) rfl (fun w' hw' => markConvoy_spec (hw'.ent _ (List.mem_of_getElem? (i := 7) rfl)) (by omega) (by omega) (by omega)) rfl ?_)
              refine SOps.st rfl rfl (Yv.assign rfl).yl ?_
              refine SOps.nil ?_
              refine Run.seq ?_
              refine Run.ops ?_
              refine SOps.st rfl rfl (Yv.loadBs (i := 4) lay27 rfl rfl rfl rfl).yl ?_
              refine SOps.st rfl rfl (Yv.move rfl).yl ?_
              refine SOps.one rfl (One.callMut (i := 5) (H' := [_, _, _, _, _, _, _, _, _, _, _, _, _, _]) rfl callable38 (.cons rfl (.cons rfl (.nil))) rfl (fun w' hw' => markConvoy_spec (hw'.ent _ (List.mem_of_getElem? (i := 5) rfl)) (by omega) (by omega) (by omega)) rfl ?_)
              refine SOps.st rfl rfl (Yv.assign rfl).yl ?_
              refine SOps.nil ?_
              refine Run.seq ?_
              refine Run.seq ?_
              refine Run.quiet (by intro h; cases h) ?_
              refine QOps.st rfl rfl (Yv.move rfl).yl ?_
              refine QOps.st rfl rfl (Yv.lss rfl rfl).yl ?_
              refine QOps.st rfl rfl (Yv.move rfl).yl ?_
              refine' QOps.or [_, _, _, _] _ (.tmp 76) rfl rfl rfl rfl rfl rfl (fun hg2 => ?_) ?_
              rotate_left
              · try replace hg2 := of_decide_eq_false hg2
                refine QOps.st rfl rfl (Yv.loadBs (i := 2) lay27 rfl rfl rfl rfl).yl ?_
                refine QOps.st rfl rfl (Yv.loadBs (i := 11) lay27 rfl rfl rfl rfl).yl ?_
                refine QOps.st rfl rfl (Yl.call callable19 (.cons rfl (.cons rfl (.nil))) (fun w' hw' => eqConvoy_spec ((Rd.row (i := 3) rfl) w' hw') ((Rd.row (i := 8) rfl) w' hw'))) ?_
                refine QOps.st rfl rfl (Yv.not rfl).yl ?_
                exact QOps.nil rfl
              refine QOps.st rfl rfl (Yv.move rfl).yl ?_
              refine' QOps.or [_, _, _] _ (.tmp 81) rfl rfl rfl rfl rfl rfl (fun hg3 => ?_) ?_
              rotate_left
              · try replace hg3 := of_decide_eq_false hg3
                refine QOps.st rfl rfl (Yv.move rfl).yl ?_
                refine QOps.st rfl rfl (Yv.move rfl).yl ?_
                refine QOps.st rfl rfl (Yv.neB bool4 rfl rfl).yl ?_
                exact QOps.nil rfl
              refine QOps.nil ?_
              refine Run.cond rfl (fun hc6 => ?_) (fun hc6 => ?_)
              · exfalso
                first | (simp at hc6; done) | (simp at hc6; omega) | omega
              · try replace hc6 := of_decide_eq_false hc6
                refine Run.skip ?_
                refine Run.seq ?_
                refine Run.quiet (by intro h; cases h) ?_
                refine QOps.st rfl rfl (Yv.assign rfl).yl ?_
                refine QOps.nil ?_
                refine Run.seq ?_
                refine Run.ops ?_
                refine SOps.st rfl rfl (Yv.loadBs (i := 2) lay27 rfl rfl rfl rfl).yl ?_
                refine SOps.st rfl rfl (Yv.move rfl).yl ?_
                refine SOps.one rfl (One.callMut (i := 3) (H' := [_, _, _, _, _, _, _, _, _, _, _, _, _, _]) rfl callable38 (.cons rfl (.cons rfl (.nil))) rfl (fun w' hw' => markConvoy_spec (hw'.ent _ (List.mem_of_getElem? (i := 3) rfl)) (by omega) (by omega) (by omega)) rfl ?_)
                refine SOps.st rfl rfl (Yv.assign rfl).yl ?_
                refine SOps.nil ?_
                refine Run.seq ?_
                refine Run.quiet (by intro h; cases h) ?_
                refine QOps.st rfl rfl (Yv.assign rfl).yl ?_
                refine QOps.nil ?_
                refine Run.seq ?_
                refine Run.quiet (by intro h; cases h) ?_
                refine QOps.st rfl rfl (Yv.loadBs (i := 2) lay27 rfl rfl rfl rfl).yl ?_
                refine QOps.st rfl rfl (Yv.move rfl).yl ?_
                refine QOps.st rfl rfl (Yl.call callable39 (.cons rfl (.cons rfl (.nil))) (fun w' hw' => heldConvoy_spec ((Rd.row (i := 3) rfl) w' hw') (by omega) (by omega) (by omega))) ?_
                refine QOps.st rfl rfl (Yv.assign rfl).yl ?_
                refine QOps.nil ?_
                refine Run.seq ?_
                refine Run.seq ?_
                refine Run.quiet (by intro h; cases h) ?_
                refine QOps.st rfl rfl (Yv.move rfl).yl ?_
                refine QOps.st rfl rfl (Yv.lss rfl rfl).yl ?_
                refine QOps.nil ?_
                refine Run.cond rfl (fun hc7 => ?_) (fun hc7 => ?_)
                · exfalso
                  first | (simp at hc7; done) | (simp at hc7; omega) | omega
                · try replace hc7 := of_decide_eq_false hc7
                  refine Run.skip ?_
                  refine Run.seq ?_
                  refine Run.seq ?_
                  refine Run.quiet (by intro h; cases h) ?_
                  refine QOps.st rfl rfl (Yv.move rfl).yl ?_
                  refine QOps.st rfl rfl (Yv.move rfl).yl ?_
                  refine QOps.st rfl rfl (Yv.neI rfl rfl).yl ?_
                  refine QOps.nil ?_
                  refine Run.cond rfl (fun hc8 => ?_) (fun hc8 => ?_)
                  · exfalso
                    first | (simp at hc8; done) | (simp at hc8; omega) | omega
                  · try replace hc8 := of_decide_eq_false hc8
                    refine Run.skip ?_
                    refine Run.seq ?_
                    refine Run.draws (fun H => H) (m := 11) (listed := #[false, false, false, false, false, false, false, false, false, false, false]) (by kernel_rfl) rfl rfl ?_
                    refine DOps.take (listed' := #[true, false, false, false, false, false, false, false, false, false, false]) 0 rfl (by kernel_rfl) rfl (List.Sublist.refl _) rfl rfl (Yv.loadBs (i := 13) lay24 rfl rfl rfl rfl) ?_
                    refine DOps.take (listed' := #[true, false, true, false, false, false, false, false, false, false, false]) 2 rfl (by kernel_rfl) rfl (List.Sublist.refl _) rfl rfl (Yv.loadBs (i := 12) lay24 rfl rfl rfl rfl) ?_
                    refine DOps.fork2 (l1 := #[true, true, true, false, false, false, false, false, false, false, false]) (l2 := #[true, false, true, false, false, false, false, false, true, false, false]) 1 8 rfl rfl (by kernel_rfl) rfl rfl rfl rfl ?_ ?_
                    ·
                      refine One.callRow rfl callable17 (.cons rfl (.nil)) (fun w' hw' => toConvoy_spec ((Rd.arg hs) w' hw') (by omega)) (fun A9 c9 => ?_)
                      refine ⟨(List.Sublist.cons _ (List.Sublist.refl _)), ?_⟩
                      refine DOps.fork2 (l1 := #[true, true, true, true, false, false, false, false, false, false, false]) (l2 := #[true, true, true, false, false, false, false, false, true, false, false]) 3 8 rfl rfl (by kernel_rfl) rfl rfl rfl rfl ?_ ?_
                      ·
                        refine One.callRow rfl callable17 (.cons rfl (.nil)) (fun w' hw' => toConvoy_spec ((Rd.arg hs2) w' hw') (by omega)) (fun A10 c10 => ?_)
                        refine ⟨(List.Sublist.cons _ (List.Sublist.cons _ (List.Sublist.refl _))), ?_⟩
                        refine DOps.fork2 (l1 := #[true, true, true, true, true, false, false, false, false, false, false]) (l2 := #[true, true, true, true, false, false, false, false, true, false, false]) 4 8 rfl rfl (by kernel_rfl) rfl rfl rfl rfl ?_ ?_
                        ·
                          refine One.callRow rfl callable37 (.cons rfl (.cons rfl (.nil))) (fun w' hw' => JoinConvoys_spec ((Rd.row (i := 1) rfl) w' hw') ((Rd.row (i := 0) rfl) w' hw') (by omega) (by omega)) (fun A11 c11 => ?_)
                          refine ⟨(List.Sublist.cons _ (List.Sublist.cons _ (List.Sublist.cons _ (List.Sublist.refl _)))), ?_⟩
                          refine DOps.take (listed' := #[true, true, true, true, true, true, false, false, false, false, false]) 5 rfl (by kernel_rfl) rfl (List.Sublist.cons _ (List.Sublist.cons _ (List.Sublist.cons _ (List.Sublist.refl _)))) rfl rfl (Yv.move rfl) ?_
                          refine DOps.take (listed' := #[true, true, true, true, true, true, true, false, false, false, false]) 6 rfl (by kernel_rfl) rfl (List.Sublist.cons _ (List.Sublist.cons _ (List.Sublist.cons _ (List.Sublist.refl _)))) rfl rfl (Yv.extract rfl rfl) ?_
                          refine DOps.take (listed' := #[true, true, true, true, true, true, true, true, false, false, false]) 7 rfl (by kernel_rfl) rfl (List.Sublist.cons _ (List.Sublist.cons _ (List.Sublist.cons _ (List.Sublist.refl _)))) rfl rfl (Yv.extract rfl rfl) ?_
                          refine DOps.only (listed' := #[true, true, true, true, true, true, true, true, true, false, false]) 8 rfl (by kernel_rfl) rfl rfl ?_
                          refine One.alloc rfl zero27 (fun b7 => ?_)
                          refine ⟨(List.Sublist.cons _ (List.Sublist.cons _ (List.Sublist.cons _ (List.Sublist.cons _ (List.Sublist.refl _))))), ?_⟩
                          refine DOps.only (listed' := #[true, true, true, true, true, true, true, true, true, true, false]) 9 rfl (by kernel_rfl) rfl rfl ?_
                          refine One.store (i := 0) (off := 0) (vs := [_, _]) (cs' := [_, _]) (H' := [_, _, _, _, _, _, _, _, _, _, _, _, _, _, _, _, _, _]) lay27 rfl rfl rfl rfl rfl rfl rfl rfl rfl rfl ?_
                          refine ⟨(List.Sublist.cons _ (List.Sublist.cons _ (List.Sublist.cons _ (List.Sublist.cons _ (List.Sublist.refl _))))), ?_⟩
                          refine DOps.take (listed' := #[true, true, true, true, true, true, true, true, true, true, true]) 10 rfl (by kernel_rfl) rfl (List.Sublist.cons _ (List.Sublist.cons _ (List.Sublist.cons _ (List.Sublist.cons _ (List.Sublist.refl _))))) rfl rfl (Yv.assign rfl) ?_
                          refine DOps.done (by kernel_rfl) ?_
                          refine Run.seq ?_
                          refine Run.seq ?_
                          refine Run.quiet (by intro h; cases h) ?_
                          refine QOps.st rfl rfl (Yv.loadBs (i := 0) lay27 rfl rfl rfl rfl).yl ?_
                          refine QOps.st rfl rfl (Yv.loadBs (i := 15) lay27 rfl rfl rfl rfl).yl ?_
                          refine QOps.st rfl rfl (Yl.call callable19 (.cons rfl (.cons rfl (.nil))) (fun w' hw' => eqConvoy_spec ((Rd.row (i := 1) rfl) w' hw') ((Rd.row (i := 12) rfl) w' hw'))) ?_
                          refine QOps.st rfl rfl (Yv.not rfl).yl ?_
                          refine QOps.st rfl rfl (Yv.move rfl).yl ?_
                          refine' QOps.or [_, _, _] _ (.tmp 109) rfl rfl rfl rfl rfl rfl (fun hg4 => ?_) ?_
                          rotate_left
                          · try replace hg4 := of_decide_eq_false hg4
                            refine QOps.st rfl rfl (Yv.move rfl).yl ?_
                            refine QOps.st rfl rfl (Yv.move rfl).yl ?_
                            refine QOps.st rfl rfl (Yv.neB bool4 rfl rfl).yl ?_
                            exact QOps.nil rfl
                          refine QOps.nil ?_
                          refine Run.cond rfl (fun hc9 => ?_) (fun hc9 => ?_)
                          · exfalso
                            first | (simp at hc9; done) | (simp at hc9; omega) | omega
                          · try replace hc9 := of_decide_eq_false hc9
                            refine Run.skip ?_
                            refine Run.seq ?_
                            refine Run.quiet (by intro h; cases h) ?_
                            refine QOps.st rfl rfl (Yv.assign rfl).yl ?_
                            refine QOps.nil ?_
                            refine Run.seq ?_
                            refine Run.quiet (by intro h; cases h) ?_
                            refine QOps.st rfl rfl (Yv.loadBs (i := 6) lay27 rfl rfl rfl rfl).yl ?_
                            refine QOps.st rfl rfl (Yv.move rfl).yl ?_
                            refine QOps.st rfl rfl (Yl.call callable39 (.cons rfl (.cons rfl (.nil))) (fun w' hw' => heldConvoy_spec ((Rd.row (i := 7) rfl) w' hw') (by omega) (by omega) (by omega))) ?_
                            refine QOps.st rfl rfl (Yv.assign rfl).yl ?_
                            refine QOps.nil ?_
                            refine Run.seq ?_
                            refine Run.seq ?_
                            refine Run.quiet (by intro h; cases h) ?_
                            refine QOps.st rfl rfl (Yv.move rfl).yl ?_
                            refine QOps.st rfl rfl (Yv.lss rfl rfl).yl ?_
                            refine QOps.nil ?_
                            refine Run.cond rfl (fun hc10 => ?_) (fun hc10 => ?_)
                            · exfalso
                              first | (simp at hc10; done) | (simp at hc10; omega) | omega
                            · try replace hc10 := of_decide_eq_false hc10
                              refine Run.skip ?_
                              refine Run.seq ?_
                              refine Run.seq ?_
                              refine Run.quiet (by intro h; cases h) ?_
                              refine QOps.st rfl rfl (Yv.move rfl).yl ?_
                              refine QOps.st rfl rfl (Yv.move rfl).yl ?_
                              refine QOps.st rfl rfl (Yv.neI rfl rfl).yl ?_
                              refine QOps.nil ?_
                              refine Run.cond rfl (fun hc11 => ?_) (fun hc11 => ?_)
                              · exfalso
                                first | (simp at hc11; done) | (simp at hc11; omega) | omega
                              · try replace hc11 := of_decide_eq_false hc11
                                refine Run.skip ?_
                                refine Run.seq ?_
                                refine Run.quiet (by intro h; cases h) ?_
                                refine QOps.st rfl rfl (Yv.assign rfl).yl ?_
                                refine QOps.nil ?_
                                refine Run.ret ?_
                                refine retQ.of (.inr rfl) rfl (.tmp rfl .nil) (fun w' hw' => ?_)
                                refine ⟨?_, hw'.bel.below⟩
                                exact rfl
                        ·
                          refine One.alloc rfl zero27 (fun b7 => ?_)
                          refine ⟨(List.Sublist.cons _ (List.Sublist.cons _ (List.Sublist.cons _ (List.Sublist.refl _)))), ?_⟩
                          refine DOps.only (listed' := #[true, true, true, true, true, false, false, false, true, false, false]) 4 rfl (by kernel_rfl) rfl rfl ?_
                          refine One.callRow rfl callable37 (.cons rfl (.cons rfl (.nil))) (fun w' hw' => JoinConvoys_spec ((Rd.row (i := 2) rfl) w' hw') ((Rd.row (i := 1) rfl) w' hw') (by omega) (by omega)) (fun A11 c11 => ?_)
                          refine ⟨(List.Sublist.cons _ (List.Sublist.cons _ (List.Sublist.cons _ (List.Sublist.cons _ (List.Sublist.refl _))))), ?_⟩
                          refine DOps.take (listed' := #[true, true, true, true, true, true, false, false, true, false, false]) 5 rfl (by kernel_rfl) rfl (List.Sublist.cons _ (List.Sublist.cons _ (List.Sublist.cons _ (List.Sublist.cons _ (List.Sublist.refl _))))) rfl rfl (Yv.move rfl) ?_
                          refine DOps.take (listed' := #[true, true, true, true, true, true, true, false, true, false, false]) 6 rfl (by kernel_rfl) rfl (List.Sublist.cons _ (List.Sublist.cons _ (List.Sublist.cons _ (List.Sublist.cons _ (List.Sublist.refl _))))) rfl rfl (Yv.extract rfl rfl) ?_
                          refine DOps.take (listed' := #[true, true, true, true, true, true, true, true, true, false, false]) 7 rfl (by kernel_rfl) rfl (List.Sublist.cons _ (List.Sublist.cons _ (List.Sublist.cons _ (List.Sublist.cons _ (List.Sublist.refl _))))) rfl rfl (Yv.extract rfl rfl) ?_
                          refine DOps.only (listed' := #[true, true, true, true, true, true, true, true, true, true, false]) 9 rfl (by kernel_rfl) rfl rfl ?_
                          refine One.store (i := 1) (off := 0) (vs := [_, _]) (cs' := [_, _]) (H' := [_, _, _, _, _, _, _, _, _, _, _, _, _, _, _, _, _, _]) lay27 rfl rfl rfl rfl rfl rfl rfl rfl rfl rfl ?_
                          refine ⟨(List.Sublist.cons _ (List.Sublist.cons _ (List.Sublist.cons _ (List.Sublist.cons _ (List.Sublist.refl _))))), ?_⟩
                          refine DOps.take (listed' := #[true, true, true, true, true, true, true, true, true, true, true]) 10 rfl (by kernel_rfl) rfl (List.Sublist.cons _ (List.Sublist.cons _ (List.Sublist.cons _ (List.Sublist.cons _ (List.Sublist.refl _))))) rfl rfl (Yv.assign rfl) ?_
                          refine DOps.done (by kernel_rfl) ?_
                          refine Run.seq ?_
                          refine Run.seq ?_
                          refine Run.quiet (by intro h; cases h) ?_
                          refine QOps.st rfl rfl (Yv.loadBs (i := 1) lay27 rfl rfl rfl rfl).yl ?_
                          refine QOps.st rfl rfl (Yv.loadBs (i := 15) lay27 rfl rfl rfl rfl).yl ?_
                          refine QOps.st rfl rfl (Yl.call callable19 (.cons rfl (.cons rfl (.nil))) (fun w' hw' => eqConvoy_spec ((Rd.row (i := 0) rfl) w' hw') ((Rd.row (i := 12) rfl) w' hw'))) ?_
                          refine QOps.st rfl rfl (Yv.not rfl).yl ?_
                          refine QOps.st rfl rfl (Yv.move rfl).yl ?_
                          refine' QOps.or [_, _, _] _ (.tmp 109) rfl rfl rfl rfl rfl rfl (fun hg4 => ?_) ?_
                          rotate_left
                          · try replace hg4 := of_decide_eq_false hg4
                            refine QOps.st rfl rfl (Yv.move rfl).yl ?_
                            refine QOps.st rfl rfl (Yv.move rfl).yl ?_
                            refine QOps.st rfl rfl (Yv.neB bool4 rfl rfl).yl ?_
                            exact QOps.nil rfl
                          refine QOps.nil ?_
                          refine Run.cond rfl (fun hc9 => ?_) (fun hc9 => ?_)
                          · exfalso
                            first | (simp at hc9; done) | (simp at hc9; omega) | omega
                          · try replace hc9 := of_decide_eq_false hc9
                            refine Run.skip ?_
                            refine Run.seq ?_
                            refine Run.quiet (by intro h; cases h) ?_
                            refine QOps.st rfl rfl (Yv.assign rfl).yl ?_
                            refine QOps.nil ?_
                            refine Run.seq ?_
                            refine Run.quiet (by intro h; cases h) ?_
                            refine QOps.st rfl rfl (Yv.loadBs (i := 6) lay27 rfl rfl rfl rfl).yl ?_
                            refine QOps.st rfl rfl (Yv.move rfl).yl ?_
                            refine QOps.st rfl rfl (Yl.call callable39 (.cons rfl (.cons rfl (.nil))) (fun w' hw' => heldConvoy_spec ((Rd.row (i := 7) rfl) w' hw') (by omega) (by omega) (by omega))) ?_
                            refine QOps.st rfl rfl (Yv.assign rfl).yl ?_
                            refine QOps.nil ?_
                            refine Run.seq ?_
                            refine Run.seq ?_
                            refine Run.quiet (by intro h; cases h) ?_
                            refine QOps.st rfl rfl (Yv.move rfl).yl ?_
                            refine QOps.st rfl rfl (Yv.lss rfl rfl).yl ?_
                            refine QOps.nil ?_
                            refine Run.cond rfl (fun hc10 => ?_) (fun hc10 => ?_)
                            · exfalso
                              first | (simp at hc10; done) | (simp at hc10; omega) | omega
                            · try replace hc10 := of_decide_eq_false hc10
                              refine Run.skip ?_
                              refine Run.seq ?_
                              refine Run.seq ?_
                              refine Run.quiet (by intro h; cases h) ?_
                              refine QOps.st rfl rfl (Yv.move rfl).yl ?_
                              refine QOps.st rfl rfl (Yv.move rfl).yl ?_
                              refine QOps.st rfl rfl (Yv.neI rfl rfl).yl ?_
                              refine QOps.nil ?_
                              refine Run.cond rfl (fun hc11 => ?_) (fun hc11 => ?_)
                              · exfalso
                                first | (simp at hc11; done) | (simp at hc11; omega) | omega
                              · try replace hc11 := of_decide_eq_false hc11
                                refine Run.skip ?_
                                refine Run.seq ?_
                                refine Run.quiet (by intro h; cases h) ?_
                                refine QOps.st rfl rfl (Yv.assign rfl).yl ?_
                                refine QOps.nil ?_
                                refine Run.ret ?_
                                refine retQ.of (.inr rfl) rfl (.tmp rfl .nil) (fun w' hw' => ?_)
                                refine ⟨?_, hw'.bel.below⟩
                                exact rfl
                      ·
                        refine One.alloc rfl zero27 (fun b7 => ?_)
                        refine ⟨(List.Sublist.cons _ (List.Sublist.cons _ (List.Sublist.refl _))), ?_⟩
                        refine DOps.only (listed' := #[true, true, true, true, false, false, false, false, true, false, false]) 3 rfl (by kernel_rfl) rfl rfl ?_
                        refine One.callRow rfl callable17 (.cons rfl (.nil)) (fun w' hw' => toConvoy_spec ((Rd.arg hs2) w' hw') (by omega)) (fun A10 c10 => ?_)
                        refine ⟨(List.Sublist.cons _ (List.Sublist.cons _ (List.Sublist.cons _ (List.Sublist.refl _)))), ?_⟩
                        refine DOps.only (listed' := #[true, true, true, true, true, false, false, false, true, false, false]) 4 rfl (by kernel_rfl) rfl rfl ?_
                        refine One.callRow rfl callable37 (.cons rfl (.cons rfl (.nil))) (fun w' hw' => JoinConvoys_spec ((Rd.row (i := 2) rfl) w' hw') ((Rd.row (i := 0) rfl) w' hw') (by omega) (by omega)) (fun A11 c11 => ?_)
                        refine ⟨(List.Sublist.cons _ (List.Sublist.cons _ (List.Sublist.cons _ (List.Sublist.cons _ (List.Sublist.refl _))))), ?_⟩
                        refine DOps.take (listed' := #[true, true, true, true, true, true, false, false, true, false, false]) 5 rfl (by kernel_rfl) rfl (List.Sublist.cons _ (List.Sublist.cons _ (List.Sublist.cons _ (List.Sublist.cons _ (List.Sublist.refl _))))) rfl rfl (Yv.move rfl) ?_
                        refine DOps.take (listed' := #[true, true, true, true, true, true, true, false, true, false, false]) 6 rfl (by kernel_rfl) rfl (List.Sublist.cons _ (List.Sublist.cons _ (List.Sublist.cons _ (List.Sublist.cons _ (List.Sublist.refl _))))) rfl rfl (Yv.extract rfl rfl) ?_
                        refine DOps.take (listed' := #[true, true, true, true, true, true, true, true, true, false, false]) 7 rfl (by kernel_rfl) rfl (List.Sublist.cons _ (List.Sublist.cons _ (List.Sublist.cons _ (List.Sublist.cons _ (List.Sublist.refl _))))) rfl rfl (Yv.extract rfl rfl) ?_
                        refine DOps.only (listed' := #[true, true, true, true, true, true, true, true, true, true, false]) 9 rfl (by kernel_rfl) rfl rfl ?_
                        refine One.store (i := 2) (off := 0) (vs := [_, _]) (cs' := [_, _]) (H' := [_, _, _, _, _, _, _, _, _, _, _, _, _, _, _, _, _, _]) lay27 rfl rfl rfl rfl rfl rfl rfl rfl rfl rfl ?_
                        refine ⟨(List.Sublist.cons _ (List.Sublist.cons _ (List.Sublist.cons _ (List.Sublist.cons _ (List.Sublist.refl _))))), ?_⟩
                        refine DOps.take (listed' := #[true, true, true, true, true, true, true, true, true, true, true]) 10 rfl (by kernel_rfl) rfl (List.Sublist.cons _ (List.Sublist.cons _ (List.Sublist.cons _ (List.Sublist.cons _ (List.Sublist.refl _))))) rfl rfl (Yv.assign rfl) ?_
                        refine DOps.done (by kernel_rfl) ?_
                        refine Run.seq ?_
                        refine Run.seq ?_
                        refine Run.quiet (by intro h; cases h) ?_
                        refine QOps.st rfl rfl (Yv.loadBs (i := 2) lay27 rfl rfl rfl rfl).yl ?_
                        refine QOps.st rfl rfl (Yv.loadBs (i := 15) lay27 rfl rfl rfl rfl).yl ?_
                        refine QOps.st rfl rfl (Yl.call callable19 (.cons rfl (.cons rfl (.nil))) (fun w' hw' => eqConvoy_spec ((Rd.row (i := 0) rfl) w' hw') ((Rd.row (i := 12) rfl) w' hw'))) ?_
                        refine QOps.st rfl rfl (Yv.not rfl).yl ?_
                        refine QOps.st rfl rfl (Yv.move rfl).yl ?_
                        refine' QOps.or [_, _, _] _ (.tmp 109) rfl rfl rfl rfl rfl rfl (fun hg4 => ?_) ?_
                        rotate_left
                        · try replace hg4 := of_decide_eq_false hg4
                          refine QOps.st rfl rfl (Yv.move rfl).yl ?_
                          refine QOps.st rfl rfl (Yv.move rfl).yl ?_
                          refine QOps.st rfl rfl (Yv.neB bool4 rfl rfl).yl ?_
                          exact QOps.nil rfl
                        refine QOps.nil ?_
                        refine Run.cond rfl (fun hc9 => ?_) (fun hc9 => ?_)
                        · exfalso
                          first | (simp at hc9; done) | (simp at hc9; omega) | omega
                        · try replace hc9 := of_decide_eq_false hc9
                          refine Run.skip ?_
                          refine Run.seq ?_
                          refine Run.quiet (by intro h; cases h) ?_
                          refine QOps.st rfl rfl (Yv.assign rfl).yl ?_
                          refine QOps.nil ?_
                          refine Run.seq ?_
                          refine Run.quiet (by intro h; cases h) ?_
                          refine QOps.st rfl rfl (Yv.loadBs (i := 6) lay27 rfl rfl rfl rfl).yl ?_
                          refine QOps.st rfl rfl (Yv.move rfl).yl ?_
                          refine QOps.st rfl rfl (Yl.call callable39 (.cons rfl (.cons rfl (.nil))) (fun w' hw' => heldConvoy_spec ((Rd.row (i := 7) rfl) w' hw') (by omega) (by omega) (by omega))) ?_
                          refine QOps.st rfl rfl (Yv.assign rfl).yl ?_
                          refine QOps.nil ?_
                          refine Run.seq ?_
                          refine Run.seq ?_
                          refine Run.quiet (by intro h; cases h) ?_
                          refine QOps.st rfl rfl (Yv.move rfl).yl ?_
                          refine QOps.st rfl rfl (Yv.lss rfl rfl).yl ?_
                          refine QOps.nil ?_
                          refine Run.cond rfl (fun hc10 => ?_) (fun hc10 => ?_)
                          · exfalso
                            first | (simp at hc10; done) | (simp at hc10; omega) | omega
                          · try replace hc10 := of_decide_eq_false hc10
                            refine Run.skip ?_
                            refine Run.seq ?_
                            refine Run.seq ?_
                            refine Run.quiet (by intro h; cases h) ?_
                            refine QOps.st rfl rfl (Yv.move rfl).yl ?_
                            refine QOps.st rfl rfl (Yv.move rfl).yl ?_
                            refine QOps.st rfl rfl (Yv.neI rfl rfl).yl ?_
                            refine QOps.nil ?_
                            refine Run.cond rfl (fun hc11 => ?_) (fun hc11 => ?_)
                            · exfalso
                              first | (simp at hc11; done) | (simp at hc11; omega) | omega
                            · try replace hc11 := of_decide_eq_false hc11
                              refine Run.skip ?_
                              refine Run.seq ?_
                              refine Run.quiet (by intro h; cases h) ?_
                              refine QOps.st rfl rfl (Yv.assign rfl).yl ?_
                              refine QOps.nil ?_
                              refine Run.ret ?_
                              refine retQ.of (.inr rfl) rfl (.tmp rfl .nil) (fun w' hw' => ?_)
                              refine ⟨?_, hw'.bel.below⟩
                              exact rfl
                    ·
                      refine One.alloc rfl zero27 (fun b7 => ?_)
                      refine ⟨(List.Sublist.cons _ (List.Sublist.refl _)), ?_⟩
                      refine DOps.only (listed' := #[true, true, true, false, false, false, false, false, true, false, false]) 1 rfl (by kernel_rfl) rfl rfl ?_
                      refine One.callRow rfl callable17 (.cons rfl (.nil)) (fun w' hw' => toConvoy_spec ((Rd.arg hs) w' hw') (by omega)) (fun A9 c9 => ?_)
                      refine ⟨(List.Sublist.cons _ (List.Sublist.cons _ (List.Sublist.refl _))), ?_⟩
                      refine DOps.only (listed' := #[true, true, true, true, false, false, false, false, true, false, false]) 3 rfl (by kernel_rfl) rfl rfl ?_
                      refine One.callRow rfl callable17 (.cons rfl (.nil)) (fun w' hw' => toConvoy_spec ((Rd.arg hs2) w' hw') (by omega)) (fun A10 c10 => ?_)
                      refine ⟨(List.Sublist.cons _ (List.Sublist.cons _ (List.Sublist.cons _ (List.Sublist.refl _)))), ?_⟩
                      refine DOps.only (listed' := #[true, true, true, true, true, false, false, false, true, false, false]) 4 rfl (by kernel_rfl) rfl rfl ?_
                      refine One.callRow rfl callable37 (.cons rfl (.cons rfl (.nil))) (fun w' hw' => JoinConvoys_spec ((Rd.row (i := 1) rfl) w' hw') ((Rd.row (i := 0) rfl) w' hw') (by omega) (by omega)) (fun A11 c11 => ?_)
                      refine ⟨(List.Sublist.cons _ (List.Sublist.cons _ (List.Sublist.cons _ (List.Sublist.cons _ (List.Sublist.refl _))))), ?_⟩
                      refine DOps.take (listed' := #[true, true, true, true, true, true, false, false, true, false, false]) 5 rfl (by kernel_rfl) rfl (List.Sublist.cons _ (List.Sublist.cons _ (List.Sublist.cons _ (List.Sublist.cons _ (List.Sublist.refl _))))) rfl rfl (Yv.move rfl) ?_
                      refine DOps.take (listed' := #[true, true, true, true, true, true, true, false, true, false, false]) 6 rfl (by kernel_rfl) rfl (List.Sublist.cons _ (List.Sublist.cons _ (List.Sublist.cons _ (List.Sublist.cons _ (List.Sublist.refl _))))) rfl rfl (Yv.extract rfl rfl) ?_
                      refine DOps.take (listed' := #[true, true, true, true, true, true, true, true, true, false, false]) 7 rfl (by kernel_rfl) rfl (List.Sublist.cons _ (List.Sublist.cons _ (List.Sublist.cons _ (List.Sublist.cons _ (List.Sublist.refl _))))) rfl rfl (Yv.extract rfl rfl) ?_
                      refine DOps.only (listed' := #[true, true, true, true, true, true, true, true, true, true, false]) 9 rfl (by kernel_rfl) rfl rfl ?_
                      refine One.store (i := 3) (off := 0) (vs := [_, _]) (cs' := [_, _]) (H' := [_, _, _, _, _, _, _, _, _, _, _, _, _, _, _, _, _, _]) lay27 rfl rfl rfl rfl rfl rfl rfl rfl rfl rfl ?_
                      refine ⟨(List.Sublist.cons _ (List.Sublist.cons _ (List.Sublist.cons _ (List.Sublist.cons _ (List.Sublist.refl _))))), ?_⟩
                      refine DOps.take (listed' := #[true, true, true, true, true, true, true, true, true, true, true]) 10 rfl (by kernel_rfl) rfl (List.Sublist.cons _ (List.Sublist.cons _ (List.Sublist.cons _ (List.Sublist.cons _ (List.Sublist.refl _))))) rfl rfl (Yv.assign rfl) ?_
                      refine DOps.done (by kernel_rfl) ?_
                      refine Run.seq ?_
                      refine Run.seq ?_
                      refine Run.quiet (by intro h; cases h) ?_
                      refine QOps.st rfl rfl (Yv.loadBs (i := 3) lay27 rfl rfl rfl rfl).yl ?_
                      refine QOps.st rfl rfl (Yv.loadBs (i := 15) lay27 rfl rfl rfl rfl).yl ?_
                      refine QOps.st rfl rfl (Yl.call callable19 (.cons rfl (.cons rfl (.nil))) (fun w' hw' => eqConvoy_spec ((Rd.row (i := 0) rfl) w' hw') ((Rd.row (i := 12) rfl) w' hw'))) ?_
                      refine QOps.st rfl rfl (Yv.not rfl).yl ?_
                      refine QOps.st rfl rfl (Yv.move rfl).yl ?_
                      refine' QOps.or [_, _, _] _ (.tmp 109) rfl rfl rfl rfl rfl rfl (fun hg4 => ?_) ?_
                      rotate_left
                      · try replace hg4 := of_decide_eq_false hg4
                        refine QOps.st rfl rfl (Yv.move rfl).yl ?_
                        refine QOps.st rfl rfl (Yv.move rfl).yl ?_
                        refine QOps.st rfl rfl (Yv.neB bool4 rfl rfl).yl ?_
                        exact QOps.nil rfl
                      refine QOps.nil ?_
                      refine Run.cond rfl (fun hc9 => ?_) (fun hc9 => ?_)
                      · exfalso
                        first | (simp at hc9; done) | (simp at hc9; omega) | omega
                      · try replace hc9 := of_decide_eq_false hc9
                        refine Run.skip ?_
                        refine Run.seq ?_
                        refine Run.quiet (by intro h; cases h) ?_
                        refine QOps.st rfl rfl (Yv.assign rfl).yl ?_
                        refine QOps.nil ?_
                        refine Run.seq ?_
                        refine Run.quiet (by intro h; cases h) ?_
                        refine QOps.st rfl rfl (Yv.loadBs (i := 6) lay27 rfl rfl rfl rfl).yl ?_
                        refine QOps.st rfl rfl (Yv.move rfl).yl ?_
                        refine QOps.st rfl rfl (Yl.call callable39 (.cons rfl (.cons rfl (.nil))) (fun w' hw' => heldConvoy_spec ((Rd.row (i := 7) rfl) w' hw') (by omega) (by omega) (by omega))) ?_
                        refine QOps.st rfl rfl (Yv.assign rfl).yl ?_
                        refine QOps.nil ?_
                        refine Run.seq ?_
                        refine Run.seq ?_
                        refine Run.quiet (by intro h; cases h) ?_
                        refine QOps.st rfl rfl (Yv.move rfl).yl ?_
                        refine QOps.st rfl rfl (Yv.lss rfl rfl).yl ?_
                        refine QOps.nil ?_
                        refine Run.cond rfl (fun hc10 => ?_) (fun hc10 => ?_)
                        · exfalso
                          first | (simp at hc10; done) | (simp at hc10; omega) | omega
                        · try replace hc10 := of_decide_eq_false hc10
                          refine Run.skip ?_
                          refine Run.seq ?_
                          refine Run.seq ?_
                          refine Run.quiet (by intro h; cases h) ?_
                          refine QOps.st rfl rfl (Yv.move rfl).yl ?_
                          refine QOps.st rfl rfl (Yv.move rfl).yl ?_
                          refine QOps.st rfl rfl (Yv.neI rfl rfl).yl ?_
                          refine QOps.nil ?_
                          refine Run.cond rfl (fun hc11 => ?_) (fun hc11 => ?_)
                          · exfalso
                            first | (simp at hc11; done) | (simp at hc11; omega) | omega
                          · try replace hc11 := of_decide_eq_false hc11
                            refine Run.skip ?_
                            refine Run.seq ?_
                            refine Run.quiet (by intro h; cases h) ?_
                            refine QOps.st rfl rfl (Yv.assign rfl).yl ?_
                            refine QOps.nil ?_
                            refine Run.ret ?_
                            refine retQ.of (.inr rfl) rfl (.tmp rfl .nil) (fun w' hw' => ?_)
                            refine ⟨?_, hw'.bel.below⟩
                            exact rfl
end Go.Proofs.Ytfpglglolhlegaa
