/- Convoys: the law of barges that leave and join. Conditions: none. -/
import Derived.Test.YtfpglglolhlegaaConB
namespace Go.Proofs.Ytfpglglolhlegaa
open Go.RowKit
set_option maxRecDepth 100000
theorem FnBarges_spec {w : World} {A : Option Addr} {c : Nat} {xs : List UInt8} (hs : Sl w 1 A xs.length c (xs.flatMap byteC)) (_hb : 1 * xs.length ≤ 281474976710656) : Calls Try.prog 14 #[.slice A xs.length c] w (RetB w (.bool true)) := by
  refine calls_of_run (vs := [_]) (L := [(0, _)]) (n := 244) (F := []) (H := []) Try.func14 rfl rfl rfl rfl (HOk.start _) ?_
  refine Run.seq ?_
  refine Run.quiet (by intro h; cases h) ?_
  refine QOps.st rfl rfl (Yv.assign rfl).yl ?_
  refine QOps.nil ?_
  refine Run.seq ?_
  refine Run.seq ?_
  refine Run.quiet (by intro h; cases h) ?_
  refine QOps.st rfl rfl (Yv.move rfl).yl ?_
  refine QOps.st rfl rfl (Yl.call callable22 (.cons rfl (.nil)) (fun w' hw' => vBig_spec)) ?_
  refine QOps.nil ?_
  refine Run.cond rfl (fun hc1 => ?_) (fun hc1 => ?_)
  · try replace hc1 := of_decide_eq_true hc1
    refine Run.seq ?_
    refine Run.quiet (by intro h; cases h) ?_
    refine QOps.st rfl rfl (Yv.assign rfl).yl ?_
    refine QOps.nil ?_
    refine Run.ret ?_
    refine retQ.of (.inr rfl) rfl (.tmp rfl .nil) (fun w' hw' => ?_)
    refine ⟨?_, hw'.bel.below⟩
    exact rfl
  · try replace hc1 := of_decide_eq_false hc1
    refine Run.skip ?_
    refine Run.seq ?_
    refine Run.ops ?_
    refine SOps.st rfl rfl (Yv.move rfl).yl ?_
    refine SOps.one rfl (One.callER rfl callable48 (.cons rfl (.nil)) (fun w' hw' => DrawLeaveBarges_spec ((Rd.arg hs) w' hw')) ?_)
    rintro ⟨ya1, yb1, yd1, ye1⟩ Aq1 cq1 hx1
    try dsimp only at *
    refine SOps.st rfl rfl (Yv.move rfl).yl ?_
    refine SOps.st rfl rfl (Yv.extract rfl rfl).yl ?_
    refine SOps.st rfl rfl (Yv.extract rfl rfl).yl ?_
    refine SOps.st rfl rfl (Yv.extract rfl rfl).yl ?_
    refine SOps.one rfl (One.alloc rfl zero27 (fun b1 => ?_))
    refine SOps.one rfl (One.store (i := 0) (off := 0) (vs := [_, _]) (cs' := [_, _]) (H' := [_, _]) lay27 rfl rfl rfl rfl rfl rfl rfl rfl rfl rfl ?_)
    refine SOps.st rfl rfl (Yv.assign rfl).yl ?_
    refine SOps.st rfl rfl (Yv.assign rfl).yl ?_
    refine SOps.nil ?_
    refine Run.seq ?_
    refine Run.ops ?_
    refine SOps.st rfl rfl (Yv.loadBs (i := 0) lay27 rfl rfl rfl rfl).yl ?_
    refine SOps.st rfl rfl (Yv.move rfl).yl ?_
    refine SOps.st rfl rfl (Yv.move rfl).yl ?_
    refine SOps.one rfl (One.callRow2 rfl callable41 (.cons rfl (.cons rfl (.cons rfl (.nil)))) (fun w' hw' => LeaveBarges_spec ((Rd.row (i := 1) rfl) w' hw') (by omega)) (fun A1 c1 A2 c2 => ?_))
    refine SOps.st rfl rfl (Yv.move rfl).yl ?_
    refine SOps.st rfl rfl (Yv.extract rfl rfl).yl ?_
    refine SOps.st rfl rfl (Yv.extract rfl rfl).yl ?_
    refine SOps.st rfl rfl (Yv.extract rfl rfl).yl ?_
    refine SOps.one rfl (One.alloc rfl zero27 (fun b2 => ?_))
    refine SOps.one rfl (One.store (i := 0) (off := 0) (vs := [_, _]) (cs' := [_, _]) (H' := [_, _, _, _, _]) lay27 rfl rfl rfl rfl rfl rfl rfl rfl rfl rfl ?_)
    refine SOps.st rfl rfl (Yv.assign rfl).yl ?_
    refine SOps.st rfl rfl (Yv.assign rfl).yl ?_
    refine SOps.nil ?_
    refine Run.seq ?_
    refine Run.seq ?_
    refine Run.ops ?_
    refine SOps.st rfl rfl (Yv.loadBs (i := 3) lay27 rfl rfl rfl rfl).yl ?_
    refine SOps.st rfl rfl (Yv.move rfl).yl ?_
    refine SOps.st rfl rfl (Yv.move rfl).yl ?_
    refine SOps.one rfl (One.callRow2 rfl callable40 (.cons rfl (.cons rfl (.cons rfl (.nil)))) (fun w' hw' => sLeaveBarges_spec ((Rd.row (i := 4) rfl) w' hw') (by omega)) (fun A3 c3 A4 c4 => ?_))
    refine SOps.st rfl rfl (Yv.move rfl).yl ?_
    refine SOps.st rfl rfl (Yv.extract rfl rfl).yl ?_
    refine SOps.st rfl rfl (Yv.extract rfl rfl).yl ?_
    refine SOps.st rfl rfl (Yv.extract rfl rfl).yl ?_
    refine SOps.one rfl (One.alloc rfl zero27 (fun b3 => ?_))
    refine SOps.one rfl (One.store (i := 0) (off := 0) (vs := [_, _]) (cs' := [_, _]) (H' := [_, _, _, _, _, _, _, _]) lay27 rfl rfl rfl rfl rfl rfl rfl rfl rfl rfl ?_)
    refine SOps.st rfl rfl (Yv.assign rfl).yl ?_
    refine SOps.st rfl rfl (Yv.assign rfl).yl ?_
    refine SOps.nil ?_
    refine Run.seq ?_
    refine Run.quiet (by intro h; cases h) ?_
    refine QOps.st rfl rfl (Yv.move rfl).yl ?_
    refine QOps.st rfl rfl (Yv.move rfl).yl ?_
    refine QOps.st rfl rfl (Yv.neB bool4 rfl rfl).yl ?_
    refine QOps.st rfl rfl (Yv.move rfl).yl ?_
    refine' QOps.or [_, _, _, _] _ (.tmp 71) rfl rfl rfl rfl rfl rfl (fun hg1 => ?_) ?_
    rotate_left
    · try replace hg1 := of_decide_eq_false hg1
      refine QOps.st rfl rfl (Yv.loadBs (i := 3) lay27 rfl rfl rfl rfl).yl ?_
      refine QOps.st rfl rfl (Yv.loadBs (i := 0) lay27 rfl rfl rfl rfl).yl ?_
      refine QOps.st rfl rfl (Yl.call callable49 (.cons rfl (.cons rfl (.nil))) (fun w' hw' => vConvoy_spec ((Rd.row (i := 4) rfl) w' hw') ((Rd.row (i := 1) rfl) w' hw'))) ?_
      refine QOps.st rfl rfl (Yv.not rfl).yl ?_
      exact QOps.nil rfl
    refine QOps.st rfl rfl (Yv.move rfl).yl ?_
    refine' QOps.or [_, _, _, _] _ (.tmp 77) rfl rfl rfl rfl rfl rfl (fun hg2 => ?_) ?_
    rotate_left
    · try replace hg2 := of_decide_eq_false hg2
      refine QOps.st rfl rfl (Yv.move rfl).yl ?_
      refine QOps.st rfl rfl (Yv.move rfl).yl ?_
      refine QOps.st rfl rfl (Yl.call callable28 (.cons rfl (.cons rfl (.nil))) (fun w' hw' => vInts_spec ((Rd.row (i := 5) rfl) w' hw') ((Rd.row (i := 2) rfl) w' hw'))) ?_
      refine QOps.st rfl rfl (Yv.not rfl).yl ?_
      exact QOps.nil rfl
    refine QOps.nil ?_
    refine Run.cond rfl (fun hc2 => ?_) (fun hc2 => ?_)
    · exfalso
      simp at hc2
    · try replace hc2 := of_decide_eq_false hc2
      refine Run.skip ?_
      refine Run.seq ?_
      refine Run.seq ?_
      refine Run.quiet (by intro h; cases h) ?_
      refine QOps.st rfl rfl (Yv.move rfl).yl ?_
      refine QOps.nil ?_
      refine Run.cond rfl (fun hc3 => ?_) (fun hc3 => ?_)
      · try replace hc3 := of_decide_eq_true hc3
        have hL := left hc3
        have hLb := hL.bnd
        have hLe := hL.each
        refine Run.seq ?_
        refine Run.quiet (by intro h; cases h) ?_
        refine QOps.st rfl rfl (Yv.loadBs (i := 6) lay27 rfl rfl rfl rfl).yl ?_
        refine QOps.st rfl rfl (Yl.call callable21 (.cons rfl (.nil)) (fun w' hw' => ConvoyLength_spec ((Rd.row (i := 7) rfl) w' hw'))) ?_
        refine QOps.st rfl rfl (Yv.move rfl).yl ?_
        refine QOps.st rfl rfl (Yv.extract rfl rfl).yl ?_
        refine QOps.st rfl rfl (Yv.extract rfl rfl).yl ?_
        refine QOps.st rfl rfl (Yv.assign rfl).yl ?_
        refine QOps.st rfl rfl (Yv.assign rfl).yl ?_
        refine QOps.nil ?_
        rw [hL.len1]
        dsimp only
        refine Run.seq ?_
        refine Run.quiet (by intro h; cases h) ?_
        refine QOps.st rfl rfl (Yv.loadBs (i := 3) lay27 rfl rfl rfl rfl).yl ?_
        refine QOps.st rfl rfl (Yl.call callable21 (.cons rfl (.nil)) (fun w' hw' => ConvoyLength_spec ((Rd.row (i := 4) rfl) w' hw'))) ?_
        refine QOps.st rfl rfl (Yv.move rfl).yl ?_
        refine QOps.st rfl rfl (Yv.extract rfl rfl).yl ?_
        refine QOps.st rfl rfl (Yv.extract rfl rfl).yl ?_
        refine QOps.st rfl rfl (Yv.assign rfl).yl ?_
        refine QOps.st rfl rfl (Yv.assign rfl).yl ?_
        refine QOps.nil ?_
        rw [hL.len2]
        dsimp only
        refine Run.seq ?_
        refine Run.quiet (by intro h; cases h) ?_
        refine QOps.st rfl rfl (Yv.move rfl).yl ?_
        refine QOps.st rfl rfl (Yv.not rfl).yl ?_
        refine QOps.st rfl rfl (Yv.move rfl).yl ?_
        refine' QOps.or [_, _] _ (.tmp 94) rfl rfl rfl rfl rfl rfl (fun hg3 => ?_) ?_
        rotate_left
        · try replace hg3 := of_decide_eq_false hg3
          refine QOps.st rfl rfl (Yv.move rfl).yl ?_
          refine QOps.st rfl rfl (Yv.not rfl).yl ?_
          exact QOps.nil rfl
        refine QOps.st rfl rfl (Yv.move rfl).yl ?_
        refine' QOps.or [_, _, _, _, _, _] _ (.tmp 102) rfl rfl rfl rfl rfl rfl (fun hg4 => ?_) ?_
        rotate_left
        · try replace hg4 := of_decide_eq_false hg4
          refine QOps.st rfl rfl (Yv.move rfl).yl ?_
          refine QOps.st rfl rfl (Yv.move rfl).yl ?_
          refine QOps.st rfl rfl (Yv.sub rfl rfl (by omega)).yl ?_
          refine QOps.st rfl rfl (Yv.move rfl).yl ?_
          refine QOps.st rfl rfl (Yl.call callable35 (.cons rfl (.nil)) (fun w' hw' => vSum_spec ((Rd.row (i := 5) rfl) w' hw') (by omega) (by assumption))) ?_
          refine QOps.st rfl rfl (Yv.neI rfl rfl).yl ?_
          exact QOps.nil rfl
        refine QOps.st rfl rfl (Yv.move rfl).yl ?_
        refine' QOps.or [_, _, _, _] _ (.tmp 108) rfl rfl rfl rfl rfl rfl (fun hg5 => ?_) ?_
        rotate_left
        · try replace hg5 := of_decide_eq_false hg5
          refine QOps.st rfl rfl (Yv.move rfl).yl ?_
          refine QOps.st rfl rfl (Yv.lenS el22s rfl).yl ?_
          refine QOps.st rfl rfl (Yv.move rfl).yl ?_
          refine QOps.st rfl rfl (Yv.neI rfl rfl).yl ?_
          exact QOps.nil rfl
        refine QOps.st rfl rfl (Yv.move rfl).yl ?_
        refine' QOps.or [_, _, _] _ (.tmp 113) rfl rfl rfl rfl rfl rfl (fun hg6 => ?_) ?_
        rotate_left
        · try replace hg6 := of_decide_eq_false hg6
          refine QOps.st rfl rfl (Yv.loadBs (i := 3) lay27 rfl rfl rfl rfl).yl ?_
          refine QOps.st rfl rfl (Yl.call callable18 (.cons rfl (.nil)) (fun w' hw' => IsValidConvoy_spec ((Rd.row (i := 4) rfl) w' hw'))) ?_
          refine QOps.st rfl rfl (Yv.not rfl).yl ?_
          exact QOps.nil rfl
        refine QOps.nil ?_
        refine Run.cond rfl (fun hc4 => ?_) (fun hc4 => ?_)
        · exfalso
          have h5 := hL.sums
          simp [hL.ok, hL.cnt] at hc4
          omega
        · try replace hc4 := of_decide_eq_false hc4
          refine Run.skip ?_
          refine Run.seq ?_
          refine Run.ops ?_
          refine SOps.st rfl rfl (Yv.move rfl).yl ?_
          refine SOps.one rfl (One.callER2 rfl callable50 (.cons rfl (.nil)) (fun w' hw' => DrawJoinConvoys_spec ((Rd.arg hs) w' hw')) ?_)
          rintro ⟨ya2, yb2, yd2, ye2⟩ Aq2 cq2 Bq2 dq2 ⟨hx2, hy2⟩
          try dsimp only at *
          refine SOps.st rfl rfl (Yv.move rfl).yl ?_
          refine SOps.st rfl rfl (Yv.extract rfl rfl).yl ?_
          refine SOps.st rfl rfl (Yv.extract rfl rfl).yl ?_
          refine SOps.one rfl (One.alloc rfl zero27 (fun b4 => ?_))
          refine SOps.one rfl (One.alloc rfl zero27 (fun b5 => ?_))
          refine SOps.one rfl (One.store (i := 1) (off := 0) (vs := [_, _]) (cs' := [_, _]) (H' := [_, _, _, _, _, _, _, _, _, _, _, _]) lay27 rfl rfl rfl rfl rfl rfl rfl rfl rfl rfl ?_)
          refine SOps.one rfl (One.store (i := 0) (off := 0) (vs := [_, _]) (cs' := [_, _]) (H' := [_, _, _, _, _, _, _, _, _, _, _, _]) lay27 rfl rfl rfl rfl rfl rfl rfl rfl rfl rfl ?_)
          refine SOps.nil ?_
          refine Run.seq ?_
          refine Run.ops ?_
          refine SOps.st rfl rfl (Yv.loadBs (i := 1) lay27 rfl rfl rfl rfl).yl ?_
          refine SOps.st rfl rfl (Yv.loadBs (i := 0) lay27 rfl rfl rfl rfl).yl ?_
          refine SOps.one rfl (One.callRow rfl callable37 (.cons rfl (.cons rfl (.nil))) (fun w' hw' => JoinConvoys_spec ((Rd.row (i := 2) rfl) w' hw') ((Rd.row (i := 3) rfl) w' hw') (by omega) (by omega)) (fun A5 c5 => ?_))
          refine SOps.st rfl rfl (Yv.move rfl).yl ?_
          refine SOps.st rfl rfl (Yv.extract rfl rfl).yl ?_
          refine SOps.st rfl rfl (Yv.extract rfl rfl).yl ?_
          refine SOps.one rfl (One.alloc rfl zero27 (fun b6 => ?_))
          refine SOps.one rfl (One.store (i := 0) (off := 0) (vs := [_, _]) (cs' := [_, _]) (H' := [_, _, _, _, _, _, _, _, _, _, _, _, _, _]) lay27 rfl rfl rfl rfl rfl rfl rfl rfl rfl rfl ?_)
          refine SOps.st rfl rfl (Yv.assign rfl).yl ?_
          refine SOps.nil ?_
          refine Run.seq ?_
          refine Run.seq ?_
          refine Run.ops ?_
          refine SOps.st rfl rfl (Yv.loadBs (i := 3) lay27 rfl rfl rfl rfl).yl ?_
          refine SOps.st rfl rfl (Yv.loadBs (i := 2) lay27 rfl rfl rfl rfl).yl ?_
          refine SOps.one rfl (One.callRow rfl callable36 (.cons rfl (.cons rfl (.nil))) (fun w' hw' => sJoinConvoys_spec ((Rd.row (i := 4) rfl) w' hw') ((Rd.row (i := 5) rfl) w' hw') (by omega) (by omega)) (fun A6 c6 => ?_))
          refine SOps.st rfl rfl (Yv.move rfl).yl ?_
          refine SOps.st rfl rfl (Yv.extract rfl rfl).yl ?_
          refine SOps.st rfl rfl (Yv.extract rfl rfl).yl ?_
          refine SOps.one rfl (One.alloc rfl zero27 (fun b7 => ?_))
          refine SOps.one rfl (One.store (i := 0) (off := 0) (vs := [_, _]) (cs' := [_, _]) (H' := [_, _, _, _, _, _, _, _, _, _, _, _, _, _, _, _]) lay27 rfl rfl rfl rfl rfl rfl rfl rfl rfl rfl ?_)
          refine SOps.st rfl rfl (Yv.assign rfl).yl ?_
          refine SOps.nil ?_
          refine Run.seq ?_
          refine Run.quiet (by intro h; cases h) ?_
          refine QOps.st rfl rfl (Yv.move rfl).yl ?_
          refine QOps.st rfl rfl (Yv.move rfl).yl ?_
          refine QOps.st rfl rfl (Yv.neB bool4 rfl rfl).yl ?_
          refine QOps.st rfl rfl (Yv.move rfl).yl ?_
          refine' QOps.or [_, _, _, _] _ (.tmp 139) rfl rfl rfl rfl rfl rfl (fun hg7 => ?_) ?_
          rotate_left
          · try replace hg7 := of_decide_eq_false hg7
            refine QOps.st rfl rfl (Yv.loadBs (i := 2) lay27 rfl rfl rfl rfl).yl ?_
            refine QOps.st rfl rfl (Yv.loadBs (i := 0) lay27 rfl rfl rfl rfl).yl ?_
            refine QOps.st rfl rfl (Yl.call callable49 (.cons rfl (.cons rfl (.nil))) (fun w' hw' => vConvoy_spec ((Rd.row (i := 3) rfl) w' hw') ((Rd.row (i := 1) rfl) w' hw'))) ?_
            refine QOps.st rfl rfl (Yv.not rfl).yl ?_
            exact QOps.nil rfl
          refine QOps.nil ?_
          refine Run.cond rfl (fun hc5 => ?_) (fun hc5 => ?_)
          · exfalso
            simp at hc5
          · try replace hc5 := of_decide_eq_false hc5
            refine Run.skip ?_
            refine Run.seq ?_
            refine Run.seq ?_
            refine Run.quiet (by intro h; cases h) ?_
            refine QOps.st rfl rfl (Yv.move rfl).yl ?_
            refine QOps.nil ?_
            refine Run.cond rfl (fun hc6 => ?_) (fun hc6 => ?_)
            · try replace hc6 := of_decide_eq_true hc6
              have hJ := joined hc6
              have hjl := joinL_len (p := ya2) (l := yb2) (p2 := yd2) (l2 := ye2)
              refine Run.seq ?_
              refine Run.ops ?_
              refine SOps.st rfl rfl (Yv.loadBs (i := 2) lay27 rfl rfl rfl rfl).yl ?_
              refine SOps.st rfl rfl (Yv.fieldAddr fld27_1 rfl).yl ?_
              refine SOps.st rfl rfl (Yv.loadB (i := 5) lay22 rfl rfl rfl rfl).yl ?_
              refine SOps.st rfl rfl (Yv.lenS el22s rfl).yl ?_
              refine SOps.one rfl (One.callRow2 rfl callable41 (.cons rfl (.cons rfl (.cons rfl (.nil)))) (fun w' hw' => LeaveBarges_spec ((Rd.row (i := 3) rfl) w' hw') (by omega)) (fun A7 c7 A8 c8 => ?_))
              refine SOps.st rfl rfl (Yv.move rfl).yl ?_
              refine SOps.st rfl rfl (Yv.extract rfl rfl).yl ?_
              refine SOps.st rfl rfl (Yv.extract rfl rfl).yl ?_
              refine SOps.st rfl rfl (Yv.extract rfl rfl).yl ?_
              refine SOps.one rfl (One.alloc rfl zero27 (fun b8 => ?_))
              refine SOps.one rfl (One.store (i := 0) (off := 0) (vs := [_, _]) (cs' := [_, _]) (H' := [_, _, _, _, _, _, _, _, _, _, _, _, _, _, _, _, _, _, _]) lay27 rfl rfl rfl rfl rfl rfl rfl rfl rfl rfl ?_)
              refine SOps.st rfl rfl (Yv.assign rfl).yl ?_
              refine SOps.st rfl rfl (Yv.assign rfl).yl ?_
              refine SOps.nil ?_
              rw [hJ.ok, hJ.rest, hJ.gone]
              refine Run.seq ?_
              refine Run.quiet (by intro h; cases h) ?_
              refine QOps.st rfl rfl (Yv.move rfl).yl ?_
              refine QOps.st rfl rfl (Yv.not rfl).yl ?_
              refine QOps.st rfl rfl (Yv.move rfl).yl ?_
              refine' QOps.or [_, _, _, _, _, _] _ (.tmp 159) rfl rfl rfl rfl rfl rfl (fun hg8 => ?_) ?_
              rotate_left
              · try replace hg8 := of_decide_eq_false hg8
                refine QOps.st rfl rfl (Yv.fieldAddr fld27_1 rfl).yl ?_
                refine QOps.st rfl rfl (Yv.loadB (i := 0) lay22 rfl rfl rfl rfl).yl ?_
                refine QOps.st rfl rfl (Yv.fieldAddr fld27_1 rfl).yl ?_
                refine QOps.st rfl rfl (Yv.loadB (i := 7) lay22 rfl rfl rfl rfl).yl ?_
                refine QOps.st rfl rfl (Yl.call callable28 (.cons rfl (.cons rfl (.nil))) (fun w' hw' => vInts_spec ((Rd.row (i := 1) rfl) w' hw') ((Rd.row (i := 10) rfl) w' hw'))) ?_
                refine QOps.st rfl rfl (Yv.not rfl).yl ?_
                exact QOps.nil rfl
              refine QOps.st rfl rfl (Yv.move rfl).yl ?_
              refine' QOps.or [_, _, _, _, _] _ (.tmp 166) rfl rfl rfl rfl rfl rfl (fun hg9 => ?_) ?_
              rotate_left
              · try replace hg9 := of_decide_eq_false hg9
                refine QOps.st rfl rfl (Yv.move rfl).yl ?_
                refine QOps.st rfl rfl (Yv.fieldAddr fld27_1 rfl).yl ?_
                refine QOps.st rfl rfl (Yv.loadB (i := 8) lay22 rfl rfl rfl rfl).yl ?_
                refine QOps.st rfl rfl (Yl.call callable28 (.cons rfl (.cons rfl (.nil))) (fun w' hw' => vInts_spec ((Rd.row (i := 2) rfl) w' hw') ((Rd.row (i := 9) rfl) w' hw'))) ?_
                refine QOps.st rfl rfl (Yv.not rfl).yl ?_
                exact QOps.nil rfl
              refine QOps.nil ?_
              refine Run.cond rfl (fun hc7 => ?_) (fun hc7 => ?_)
              · exfalso
                simp at hc7
              · try replace hc7 := of_decide_eq_false hc7
                refine Run.skip ?_
                refine Run.seq ?_
                refine Run.ops ?_
                refine SOps.st rfl rfl (Yv.move rfl).yl ?_
                refine SOps.one rfl (One.callER rfl callable51 (.cons rfl (.nil)) (fun w' hw' => DrawShortestChamber_spec ((Rd.arg hs) w' hw')) ?_)
                rintro ⟨ya3, yb3, yd3⟩ Aq3 cq3 hx3
                try dsimp only at *
                refine SOps.st rfl rfl (Yv.move rfl).yl ?_
                refine SOps.st rfl rfl (Yv.extract rfl rfl).yl ?_
                refine SOps.st rfl rfl (Yv.extract rfl rfl).yl ?_
                refine SOps.one rfl (One.alloc rfl zero27 (fun b9 => ?_))
                refine SOps.one rfl (One.store (i := 0) (off := 0) (vs := [_, _]) (cs' := [_, _]) (H' := [_, _, _, _, _, _, _, _, _, _, _, _, _, _, _, _, _, _, _, _, _]) lay27 rfl rfl rfl rfl rfl rfl rfl rfl rfl rfl ?_)
                refine SOps.st rfl rfl (Yv.assign rfl).yl ?_
                refine SOps.nil ?_
                refine Run.seq ?_
                refine Run.quiet (by intro h; cases h) ?_
                refine QOps.st rfl rfl (Yv.loadBs (i := 0) lay27 rfl rfl rfl rfl).yl ?_
                refine QOps.st rfl rfl (Yv.move rfl).yl ?_
                refine QOps.st rfl rfl (Yl.call callable46 (.cons rfl (.cons rfl (.nil))) (fun w' hw' => ShortestChamber_spec ((Rd.row (i := 1) rfl) w' hw'))) ?_
                refine QOps.st rfl rfl (Yv.move rfl).yl ?_
                refine QOps.st rfl rfl (Yv.extract rfl rfl).yl ?_
                refine QOps.st rfl rfl (Yv.extract rfl rfl).yl ?_
                refine QOps.st rfl rfl (Yv.assign rfl).yl ?_
                refine QOps.st rfl rfl (Yv.assign rfl).yl ?_
                refine QOps.nil ?_
                refine Run.seq ?_
                refine Run.seq ?_
                refine Run.quiet (by intro h; cases h) ?_
                refine QOps.st rfl rfl (Yv.loadBs (i := 0) lay27 rfl rfl rfl rfl).yl ?_
                refine QOps.st rfl rfl (Yv.move rfl).yl ?_
                refine QOps.st rfl rfl (Yl.call callable45 (.cons rfl (.cons rfl (.nil))) (fun w' hw' => sShortestChamber_spec ((Rd.row (i := 1) rfl) w' hw'))) ?_
                refine QOps.st rfl rfl (Yv.move rfl).yl ?_
                refine QOps.st rfl rfl (Yv.extract rfl rfl).yl ?_
                refine QOps.st rfl rfl (Yv.extract rfl rfl).yl ?_
                refine QOps.st rfl rfl (Yv.assign rfl).yl ?_
                refine QOps.st rfl rfl (Yv.assign rfl).yl ?_
                refine QOps.nil ?_
                refine Run.seq ?_
                refine Run.quiet (by intro h; cases h) ?_
                refine QOps.st rfl rfl (Yv.move rfl).yl ?_
                refine QOps.st rfl rfl (Yv.move rfl).yl ?_
                refine QOps.st rfl rfl (Yv.neI rfl rfl).yl ?_
                refine QOps.st rfl rfl (Yv.move rfl).yl ?_
                refine' QOps.or [_, _, _] _ (.tmp 191) rfl rfl rfl rfl rfl rfl (fun hg10 => ?_) ?_
                rotate_left
                · try replace hg10 := of_decide_eq_false hg10
                  refine QOps.st rfl rfl (Yv.move rfl).yl ?_
                  refine QOps.st rfl rfl (Yv.move rfl).yl ?_
                  refine QOps.st rfl rfl (Yv.neB bool4 rfl rfl).yl ?_
                  exact QOps.nil rfl
                refine QOps.nil ?_
                refine Run.cond rfl (fun hc8 => ?_) (fun hc8 => ?_)
                · exfalso
                  simp at hc8
                · try replace hc8 := of_decide_eq_false hc8
                  refine Run.skip ?_
                  refine Run.seq ?_
                  refine Run.seq ?_
                  refine Run.quiet (by intro h; cases h) ?_
                  refine QOps.st rfl rfl (Yv.move rfl).yl ?_
                  refine QOps.nil ?_
                  refine Run.cond rfl (fun hc9 => ?_) (fun hc9 => ?_)
                  · try replace hc9 := of_decide_eq_true hc9
                    have hS := short hc9
                    have hSb := hS.bnd
                    refine Run.seq ?_
                    refine Run.ops ?_
                    refine SOps.st rfl rfl (Yv.loadBs (i := 0) lay27 rfl rfl rfl rfl).yl ?_
                    refine SOps.st rfl rfl (Yv.move rfl).yl ?_
                    refine SOps.one rfl (One.callRow rfl callable26 (.cons rfl (.cons rfl (.nil))) (fun w' hw' => GreedySplit_spec ((Rd.row (i := 1) rfl) w' hw')) (fun A9 c9 => ?_))
                    refine SOps.st rfl rfl (Yv.move rfl).yl ?_
                    refine SOps.st rfl rfl (Yv.extract rfl rfl).yl ?_
                    refine SOps.st rfl rfl (Yv.extract rfl rfl).yl ?_
                    refine SOps.st rfl rfl (Yv.assign rfl).yl ?_
                    refine SOps.st rfl rfl (Yv.assign rfl).yl ?_
                    refine SOps.nil ?_
                    refine Run.seq ?_
                    refine Run.ops ?_
                    refine SOps.st rfl rfl (Yv.loadBs (i := 1) lay27 rfl rfl rfl rfl).yl ?_
                    refine SOps.st rfl rfl (Yv.move rfl).yl ?_
                    refine SOps.st rfl rfl (Yv.sub rfl rfl (by omega)).yl ?_
                    refine SOps.one rfl (One.callRow rfl callable26 (.cons rfl (.cons rfl (.nil))) (fun w' hw' => GreedySplit_spec ((Rd.row (i := 2) rfl) w' hw')) (fun A10 c10 => ?_))
                    refine SOps.st rfl rfl (Yv.move rfl).yl ?_
                    refine SOps.st rfl rfl (Yv.extract rfl rfl).yl ?_
                    refine SOps.st rfl rfl (Yv.extract rfl rfl).yl ?_
                    refine SOps.st rfl rfl (Yv.assign rfl).yl ?_
                    refine SOps.st rfl rfl (Yv.assign rfl).yl ?_
                    refine SOps.nil ?_
                    refine Run.seq ?_
                    refine Run.quiet (by intro h; cases h) ?_
                    refine QOps.st rfl rfl (Yv.move rfl).yl ?_
                    refine QOps.st rfl rfl (Yv.not rfl).yl ?_
                    refine QOps.st rfl rfl (Yv.move rfl).yl ?_
                    refine' QOps.or [_, _, _, _] _ (.tmp 213) rfl rfl rfl rfl rfl rfl (fun hg11 => ?_) ?_
                    rotate_left
                    · try replace hg11 := of_decide_eq_false hg11
                      refine QOps.st rfl rfl (Yv.move rfl).yl ?_
                      refine QOps.st rfl rfl (Yv.lenS el22s rfl).yl ?_
                      refine QOps.st rfl rfl (Yv.move rfl).yl ?_
                      refine QOps.st rfl rfl (Yv.gtr rfl rfl).yl ?_
                      exact QOps.nil rfl
                    refine QOps.st rfl rfl (Yv.move rfl).yl ?_
                    refine' QOps.or [_, _, _, _, _, _, _] _ (.tmp 222) rfl rfl rfl rfl rfl rfl (fun hg12 => ?_) ?_
                    rotate_left
                    · try replace hg12 := of_decide_eq_false hg12
                      refine QOps.st rfl rfl (Yv.move rfl).yl ?_
                      refine QOps.st rfl rfl (Yv.move rfl).yl ?_
                      refine' QOps.and [_, _, _, _] _ (.tmp 221) rfl rfl rfl rfl rfl rfl (fun hg13 => ?_) ?_
                      rotate_left
                      · try replace hg13 := of_decide_eq_true hg13
                        refine QOps.st rfl rfl (Yv.move rfl).yl ?_
                        refine QOps.st rfl rfl (Yv.lenS el22s rfl).yl ?_
                        refine QOps.st rfl rfl (Yv.move rfl).yl ?_
                        refine QOps.st rfl rfl (Yv.leq rfl rfl).yl ?_
                        exact QOps.nil rfl
                      exact QOps.nil rfl
                    refine QOps.nil ?_
                    refine Run.cond rfl (fun hc10 => ?_) (fun hc10 => ?_)
                    · exfalso
                      simp [hS.one, Int.not_lt.2 hS.le] at hc10
                      exact hS.less hc10.1 hc10.2
                    · try replace hc10 := of_decide_eq_false hc10
                      refine Run.skip ?_
                      refine Run.seq ?_
                      refine Run.ops ?_
                      refine SOps.st rfl rfl (Yv.move rfl).yl ?_
                      refine SOps.one rfl (One.callER rfl callable52 (.cons rfl (.nil)) (fun w' hw' => DrawConvoyLength_spec ((Rd.arg hs) w' hw')) ?_)
                      rintro ⟨ya4, yb4⟩ Aq4 cq4 hx4
                      try dsimp only at *
                      refine SOps.one rfl (One.alloc rfl zero27 (fun b10 => ?_))
                      refine SOps.one rfl (One.store (i := 0) (off := 0) (vs := [_, _]) (cs' := [_, _]) (H' := [_, _, _, _, _, _, _, _, _, _, _, _, _, _, _, _, _, _, _, _, _, _, _, _, _]) lay27 rfl rfl rfl rfl rfl rfl rfl rfl rfl rfl ?_)
                      refine SOps.nil ?_
                      refine Run.seq ?_
                      refine Run.quiet (by intro h; cases h) ?_
                      refine QOps.st rfl rfl (Yv.loadBs (i := 0) lay27 rfl rfl rfl rfl).yl ?_
                      refine QOps.st rfl rfl (Yl.call callable21 (.cons rfl (.nil)) (fun w' hw' => ConvoyLength_spec ((Rd.row (i := 1) rfl) w' hw'))) ?_
                      refine QOps.st rfl rfl (Yv.move rfl).yl ?_
                      refine QOps.st rfl rfl (Yv.extract rfl rfl).yl ?_
                      refine QOps.st rfl rfl (Yv.extract rfl rfl).yl ?_
                      refine QOps.st rfl rfl (Yv.assign rfl).yl ?_
                      refine QOps.st rfl rfl (Yv.assign rfl).yl ?_
                      refine QOps.nil ?_
                      refine Run.seq ?_
                      refine Run.quiet (by intro h; cases h) ?_
                      refine QOps.st rfl rfl (Yv.loadBs (i := 0) lay27 rfl rfl rfl rfl).yl ?_
                      refine QOps.st rfl rfl (Yl.call callable20 (.cons rfl (.nil)) (fun w' hw' => sConvoyLength_spec ((Rd.row (i := 1) rfl) w' hw'))) ?_
                      refine QOps.st rfl rfl (Yv.move rfl).yl ?_
                      refine QOps.st rfl rfl (Yv.extract rfl rfl).yl ?_
                      refine QOps.st rfl rfl (Yv.extract rfl rfl).yl ?_
                      refine QOps.st rfl rfl (Yv.assign rfl).yl ?_
                      refine QOps.st rfl rfl (Yv.assign rfl).yl ?_
                      refine QOps.nil ?_
                      refine Run.seq ?_
                      refine Run.quiet (by intro h; cases h) ?_
                      refine QOps.st rfl rfl (Yv.move rfl).yl ?_
                      refine QOps.st rfl rfl (Yv.move rfl).yl ?_
                      refine QOps.st rfl rfl (Yv.eqI rfl rfl).yl ?_
                      refine QOps.st rfl rfl (Yv.move rfl).yl ?_
                      refine' QOps.and [_, _, _] _ (.tmp 242) rfl rfl rfl rfl rfl rfl (fun hg14 => ?_) ?_
                      rotate_left
                      · try replace hg14 := of_decide_eq_true hg14
                        refine QOps.st rfl rfl (Yv.move rfl).yl ?_
                        refine QOps.st rfl rfl (Yv.move rfl).yl ?_
                        refine QOps.st rfl rfl (Yv.eqB bool4 rfl rfl).yl ?_
                        exact QOps.nil rfl
                      refine QOps.st rfl rfl (Yv.assign rfl).yl ?_
                      refine QOps.nil ?_
                      refine Run.ret ?_
                      refine retQ.of (.inr rfl) rfl (.tmp rfl .nil) (fun w' hw' => ?_)
                      refine ⟨?_, hw'.bel.below⟩
                      refine retB_eq ?_
                      simp
                  · try replace hc9 := of_decide_eq_false hc9
                    refine Run.skip ?_
                    refine Run.seq ?_
                    refine Run.ops ?_
                    refine SOps.st rfl rfl (Yv.move rfl).yl ?_
                    refine SOps.one rfl (One.callER rfl callable52 (.cons rfl (.nil)) (fun w' hw' => DrawConvoyLength_spec ((Rd.arg hs) w' hw')) ?_)
                    rintro ⟨ya5, yb5⟩ Aq5 cq5 hx5
                    try dsimp only at *
                    refine SOps.one rfl (One.alloc rfl zero27 (fun b11 => ?_))
                    refine SOps.one rfl (One.store (i := 0) (off := 0) (vs := [_, _]) (cs' := [_, _]) (H' := [_, _, _, _, _, _, _, _, _, _, _, _, _, _, _, _, _, _, _, _, _, _, _]) lay27 rfl rfl rfl rfl rfl rfl rfl rfl rfl rfl ?_)
                    refine SOps.nil ?_
                    refine Run.seq ?_
                    refine Run.quiet (by intro h; cases h) ?_
                    refine QOps.st rfl rfl (Yv.loadBs (i := 0) lay27 rfl rfl rfl rfl).yl ?_
                    refine QOps.st rfl rfl (Yl.call callable21 (.cons rfl (.nil)) (fun w' hw' => ConvoyLength_spec ((Rd.row (i := 1) rfl) w' hw'))) ?_
                    refine QOps.st rfl rfl (Yv.move rfl).yl ?_
                    refine QOps.st rfl rfl (Yv.extract rfl rfl).yl ?_
                    refine QOps.st rfl rfl (Yv.extract rfl rfl).yl ?_
                    refine QOps.st rfl rfl (Yv.assign rfl).yl ?_
                    refine QOps.st rfl rfl (Yv.assign rfl).yl ?_
                    refine QOps.nil ?_
                    refine Run.seq ?_
                    refine Run.quiet (by intro h; cases h) ?_
                    refine QOps.st rfl rfl (Yv.loadBs (i := 0) lay27 rfl rfl rfl rfl).yl ?_
                    refine QOps.st rfl rfl (Yl.call callable20 (.cons rfl (.nil)) (fun w' hw' => sConvoyLength_spec ((Rd.row (i := 1) rfl) w' hw'))) ?_
                    refine QOps.st rfl rfl (Yv.move rfl).yl ?_
                    refine QOps.st rfl rfl (Yv.extract rfl rfl).yl ?_
                    refine QOps.st rfl rfl (Yv.extract rfl rfl).yl ?_
                    refine QOps.st rfl rfl (Yv.assign rfl).yl ?_
                    refine QOps.st rfl rfl (Yv.assign rfl).yl ?_
                    refine QOps.nil ?_
                    refine Run.seq ?_
                    refine Run.quiet (by intro h; cases h) ?_
                    refine QOps.st rfl rfl (Yv.move rfl).yl ?_
                    refine QOps.st rfl rfl (Yv.move rfl).yl ?_
                    refine QOps.st rfl rfl (Yv.eqI rfl rfl).yl ?_
                    refine QOps.st rfl rfl (Yv.move rfl).yl ?_
                    refine' QOps.and [_, _, _] _ (.tmp 242) rfl rfl rfl rfl rfl rfl (fun hg15 => ?_) ?_
                    rotate_left
                    · try replace hg15 := of_decide_eq_true hg15
                      refine QOps.st rfl rfl (Yv.move rfl).yl ?_
                      refine QOps.st rfl rfl (Yv.move rfl).yl ?_
                      refine QOps.st rfl rfl (Yv.eqB bool4 rfl rfl).yl ?_
                      exact QOps.nil rfl
                    refine QOps.st rfl rfl (Yv.assign rfl).yl ?_
                    refine QOps.nil ?_
                    refine Run.ret ?_
                    refine retQ.of (.inr rfl) rfl (.tmp rfl .nil) (fun w' hw' => ?_)
                    refine ⟨?_, hw'.bel.below⟩
                    refine retB_eq ?_
                    simp
            · try replace hc6 := of_decide_eq_false hc6
              refine Run.skip ?_
              refine Run.seq ?_
              refine Run.ops ?_
              refine SOps.st rfl rfl (Yv.move rfl).yl ?_
              refine SOps.one rfl (One.callER rfl callable51 (.cons rfl (.nil)) (fun w' hw' => DrawShortestChamber_spec ((Rd.arg hs) w' hw')) ?_)
              rintro ⟨ya6, yb6, yd6⟩ Aq6 cq6 hx6
              try dsimp only at *
              refine SOps.st rfl rfl (Yv.move rfl).yl ?_
              refine SOps.st rfl rfl (Yv.extract rfl rfl).yl ?_
              refine SOps.st rfl rfl (Yv.extract rfl rfl).yl ?_
              refine SOps.one rfl (One.alloc rfl zero27 (fun b12 => ?_))
              refine SOps.one rfl (One.store (i := 0) (off := 0) (vs := [_, _]) (cs' := [_, _]) (H' := [_, _, _, _, _, _, _, _, _, _, _, _, _, _, _, _, _, _]) lay27 rfl rfl rfl rfl rfl rfl rfl rfl rfl rfl ?_)
              refine SOps.st rfl rfl (Yv.assign rfl).yl ?_
              refine SOps.nil ?_
              refine Run.seq ?_
              refine Run.quiet (by intro h; cases h) ?_
              refine QOps.st rfl rfl (Yv.loadBs (i := 0) lay27 rfl rfl rfl rfl).yl ?_
              refine QOps.st rfl rfl (Yv.move rfl).yl ?_
              refine QOps.st rfl rfl (Yl.call callable46 (.cons rfl (.cons rfl (.nil))) (fun w' hw' => ShortestChamber_spec ((Rd.row (i := 1) rfl) w' hw'))) ?_
              refine QOps.st rfl rfl (Yv.move rfl).yl ?_
              refine QOps.st rfl rfl (Yv.extract rfl rfl).yl ?_
              refine QOps.st rfl rfl (Yv.extract rfl rfl).yl ?_
              refine QOps.st rfl rfl (Yv.assign rfl).yl ?_
              refine QOps.st rfl rfl (Yv.assign rfl).yl ?_
              refine QOps.nil ?_
              refine Run.seq ?_
              refine Run.seq ?_
              refine Run.quiet (by intro h; cases h) ?_
              refine QOps.st rfl rfl (Yv.loadBs (i := 0) lay27 rfl rfl rfl rfl).yl ?_
              refine QOps.st rfl rfl (Yv.move rfl).yl ?_
              refine QOps.st rfl rfl (Yl.call callable45 (.cons rfl (.cons rfl (.nil))) (fun w' hw' => sShortestChamber_spec ((Rd.row (i := 1) rfl) w' hw'))) ?_
              refine QOps.st rfl rfl (Yv.move rfl).yl ?_
              refine QOps.st rfl rfl (Yv.extract rfl rfl).yl ?_
              refine QOps.st rfl rfl (Yv.extract rfl rfl).yl ?_
              refine QOps.st rfl rfl (Yv.assign rfl).yl ?_
              refine QOps.st rfl rfl (Yv.assign rfl).yl ?_
              refine QOps.nil ?_
              refine Run.seq ?_
              refine Run.quiet (by intro h; cases h) ?_
              refine QOps.st rfl rfl (Yv.move rfl).yl ?_
              refine QOps.st rfl rfl (Yv.move rfl).yl ?_
              refine QOps.st rfl rfl (Yv.neI rfl rfl).yl ?_
              refine QOps.st rfl rfl (Yv.move rfl).yl ?_
              refine' QOps.or [_, _, _] _ (.tmp 191) rfl rfl rfl rfl rfl rfl (fun hg16 => ?_) ?_
              rotate_left
              · try replace hg16 := of_decide_eq_false hg16
                refine QOps.st rfl rfl (Yv.move rfl).yl ?_
                refine QOps.st rfl rfl (Yv.move rfl).yl ?_
                refine QOps.st rfl rfl (Yv.neB bool4 rfl rfl).yl ?_
                exact QOps.nil rfl
              refine QOps.nil ?_
              refine Run.cond rfl (fun hc11 => ?_) (fun hc11 => ?_)
              · exfalso
                simp at hc11
              · try replace hc11 := of_decide_eq_false hc11
                refine Run.skip ?_
                refine Run.seq ?_
                refine Run.seq ?_
                refine Run.quiet (by intro h; cases h) ?_
                refine QOps.st rfl rfl (Yv.move rfl).yl ?_
                refine QOps.nil ?_
                refine Run.cond rfl (fun hc12 => ?_) (fun hc12 => ?_)
                · try replace hc12 := of_decide_eq_true hc12
                  have hS := short hc12
                  have hSb := hS.bnd
                  refine Run.seq ?_
                  refine Run.ops ?_
                  refine SOps.st rfl rfl (Yv.loadBs (i := 0) lay27 rfl rfl rfl rfl).yl ?_
                  refine SOps.st rfl rfl (Yv.move rfl).yl ?_
                  refine SOps.one rfl (One.callRow rfl callable26 (.cons rfl (.cons rfl (.nil))) (fun w' hw' => GreedySplit_spec ((Rd.row (i := 1) rfl) w' hw')) (fun A11 c11 => ?_))
                  refine SOps.st rfl rfl (Yv.move rfl).yl ?_
                  refine SOps.st rfl rfl (Yv.extract rfl rfl).yl ?_
                  refine SOps.st rfl rfl (Yv.extract rfl rfl).yl ?_
                  refine SOps.st rfl rfl (Yv.assign rfl).yl ?_
                  refine SOps.st rfl rfl (Yv.assign rfl).yl ?_
                  refine SOps.nil ?_
                  refine Run.seq ?_
                  refine Run.ops ?_
                  refine SOps.st rfl rfl (Yv.loadBs (i := 1) lay27 rfl rfl rfl rfl).yl ?_
                  refine SOps.st rfl rfl (Yv.move rfl).yl ?_
                  refine SOps.st rfl rfl (Yv.sub rfl rfl (by omega)).yl ?_
                  refine SOps.one rfl (One.callRow rfl callable26 (.cons rfl (.cons rfl (.nil))) (fun w' hw' => GreedySplit_spec ((Rd.row (i := 2) rfl) w' hw')) (fun A12 c12 => ?_))
                  refine SOps.st rfl rfl (Yv.move rfl).yl ?_
                  refine SOps.st rfl rfl (Yv.extract rfl rfl).yl ?_
                  refine SOps.st rfl rfl (Yv.extract rfl rfl).yl ?_
                  refine SOps.st rfl rfl (Yv.assign rfl).yl ?_
                  refine SOps.st rfl rfl (Yv.assign rfl).yl ?_
                  refine SOps.nil ?_
                  refine Run.seq ?_
                  refine Run.quiet (by intro h; cases h) ?_
                  refine QOps.st rfl rfl (Yv.move rfl).yl ?_
                  refine QOps.st rfl rfl (Yv.not rfl).yl ?_
                  refine QOps.st rfl rfl (Yv.move rfl).yl ?_
                  refine' QOps.or [_, _, _, _] _ (.tmp 213) rfl rfl rfl rfl rfl rfl (fun hg17 => ?_) ?_
                  rotate_left
                  · try replace hg17 := of_decide_eq_false hg17
                    refine QOps.st rfl rfl (Yv.move rfl).yl ?_
                    refine QOps.st rfl rfl (Yv.lenS el22s rfl).yl ?_
                    refine QOps.st rfl rfl (Yv.move rfl).yl ?_
                    refine QOps.st rfl rfl (Yv.gtr rfl rfl).yl ?_
                    exact QOps.nil rfl
                  refine QOps.st rfl rfl (Yv.move rfl).yl ?_
                  refine' QOps.or [_, _, _, _, _, _, _] _ (.tmp 222) rfl rfl rfl rfl rfl rfl (fun hg18 => ?_) ?_
                  rotate_left
                  · try replace hg18 := of_decide_eq_false hg18
                    refine QOps.st rfl rfl (Yv.move rfl).yl ?_
                    refine QOps.st rfl rfl (Yv.move rfl).yl ?_
                    refine' QOps.and [_, _, _, _] _ (.tmp 221) rfl rfl rfl rfl rfl rfl (fun hg19 => ?_) ?_
                    rotate_left
                    · try replace hg19 := of_decide_eq_true hg19
                      refine QOps.st rfl rfl (Yv.move rfl).yl ?_
                      refine QOps.st rfl rfl (Yv.lenS el22s rfl).yl ?_
                      refine QOps.st rfl rfl (Yv.move rfl).yl ?_
                      refine QOps.st rfl rfl (Yv.leq rfl rfl).yl ?_
                      exact QOps.nil rfl
                    exact QOps.nil rfl
                  refine QOps.nil ?_
                  refine Run.cond rfl (fun hc13 => ?_) (fun hc13 => ?_)
                  · exfalso
                    simp [hS.one, Int.not_lt.2 hS.le] at hc13
                    exact hS.less hc13.1 hc13.2
                  · try replace hc13 := of_decide_eq_false hc13
                    refine Run.skip ?_
                    refine Run.seq ?_
                    refine Run.ops ?_
                    refine SOps.st rfl rfl (Yv.move rfl).yl ?_
                    refine SOps.one rfl (One.callER rfl callable52 (.cons rfl (.nil)) (fun w' hw' => DrawConvoyLength_spec ((Rd.arg hs) w' hw')) ?_)
                    rintro ⟨ya7, yb7⟩ Aq7 cq7 hx7
                    try dsimp only at *
                    refine SOps.one rfl (One.alloc rfl zero27 (fun b13 => ?_))
                    refine SOps.one rfl (One.store (i := 0) (off := 0) (vs := [_, _]) (cs' := [_, _]) (H' := [_, _, _, _, _, _, _, _, _, _, _, _, _, _, _, _, _, _, _, _, _, _]) lay27 rfl rfl rfl rfl rfl rfl rfl rfl rfl rfl ?_)
                    refine SOps.nil ?_
                    refine Run.seq ?_
                    refine Run.quiet (by intro h; cases h) ?_
                    refine QOps.st rfl rfl (Yv.loadBs (i := 0) lay27 rfl rfl rfl rfl).yl ?_
                    refine QOps.st rfl rfl (Yl.call callable21 (.cons rfl (.nil)) (fun w' hw' => ConvoyLength_spec ((Rd.row (i := 1) rfl) w' hw'))) ?_
                    refine QOps.st rfl rfl (Yv.move rfl).yl ?_
                    refine QOps.st rfl rfl (Yv.extract rfl rfl).yl ?_
                    refine QOps.st rfl rfl (Yv.extract rfl rfl).yl ?_
                    refine QOps.st rfl rfl (Yv.assign rfl).yl ?_
                    refine QOps.st rfl rfl (Yv.assign rfl).yl ?_
                    refine QOps.nil ?_
                    refine Run.seq ?_
                    refine Run.quiet (by intro h; cases h) ?_
                    refine QOps.st rfl rfl (Yv.loadBs (i := 0) lay27 rfl rfl rfl rfl).yl ?_
                    refine QOps.st rfl rfl (Yl.call callable20 (.cons rfl (.nil)) (fun w' hw' => sConvoyLength_spec ((Rd.row (i := 1) rfl) w' hw'))) ?_
                    refine QOps.st rfl rfl (Yv.move rfl).yl ?_
                    refine QOps.st rfl rfl (Yv.extract rfl rfl).yl ?_
                    refine QOps.st rfl rfl (Yv.extract rfl rfl).yl ?_
                    refine QOps.st rfl rfl (Yv.assign rfl).yl ?_
                    refine QOps.st rfl rfl (Yv.assign rfl).yl ?_
                    refine QOps.nil ?_
                    refine Run.seq ?_
                    refine Run.quiet (by intro h; cases h) ?_
                    refine QOps.st rfl rfl (Yv.move rfl).yl ?_
                    refine QOps.st rfl rfl (Yv.move rfl).yl ?_
                    refine QOps.st rfl rfl (Yv.eqI rfl rfl).yl ?_
                    refine QOps.st rfl rfl (Yv.move rfl).yl ?_
                    refine' QOps.and [_, _, _] _ (.tmp 242) rfl rfl rfl rfl rfl rfl (fun hg20 => ?_) ?_
                    rotate_left
                    · try replace hg20 := of_decide_eq_true hg20
                      refine QOps.st rfl rfl (Yv.move rfl).yl ?_
                      refine QOps.st rfl rfl (Yv.move rfl).yl ?_
                      refine QOps.st rfl rfl (Yv.eqB bool4 rfl rfl).yl ?_
                      exact QOps.nil rfl
                    refine QOps.st rfl rfl (Yv.assign rfl).yl ?_
                    refine QOps.nil ?_
                    refine Run.ret ?_
                    refine retQ.of (.inr rfl) rfl (.tmp rfl .nil) (fun w' hw' => ?_)
                    refine ⟨?_, hw'.bel.below⟩
                    refine retB_eq ?_
                    simp
                · try replace hc12 := of_decide_eq_false hc12
                  refine Run.skip ?_
                  refine Run.seq ?_
                  refine Run.ops ?_
                  refine SOps.st rfl rfl (Yv.move rfl).yl ?_
                  refine SOps.one rfl (One.callER rfl callable52 (.cons rfl (.nil)) (fun w' hw' => DrawConvoyLength_spec ((Rd.arg hs) w' hw')) ?_)
                  rintro ⟨ya8, yb8⟩ Aq8 cq8 hx8
                  try dsimp only at *
                  refine SOps.one rfl (One.alloc rfl zero27 (fun b14 => ?_))
                  refine SOps.one rfl (One.store (i := 0) (off := 0) (vs := [_, _]) (cs' := [_, _]) (H' := [_, _, _, _, _, _, _, _, _, _, _, _, _, _, _, _, _, _, _, _]) lay27 rfl rfl rfl rfl rfl rfl rfl rfl rfl rfl ?_)
                  refine SOps.nil ?_
                  refine Run.seq ?_
                  refine Run.quiet (by intro h; cases h) ?_
                  refine QOps.st rfl rfl (Yv.loadBs (i := 0) lay27 rfl rfl rfl rfl).yl ?_
                  refine QOps.st rfl rfl (Yl.call callable21 (.cons rfl (.nil)) (fun w' hw' => ConvoyLength_spec ((Rd.row (i := 1) rfl) w' hw'))) ?_
                  refine QOps.st rfl rfl (Yv.move rfl).yl ?_
                  refine QOps.st rfl rfl (Yv.extract rfl rfl).yl ?_
                  refine QOps.st rfl rfl (Yv.extract rfl rfl).yl ?_
                  refine QOps.st rfl rfl (Yv.assign rfl).yl ?_
                  refine QOps.st rfl rfl (Yv.assign rfl).yl ?_
                  refine QOps.nil ?_
                  refine Run.seq ?_
                  refine Run.quiet (by intro h; cases h) ?_
                  refine QOps.st rfl rfl (Yv.loadBs (i := 0) lay27 rfl rfl rfl rfl).yl ?_
                  refine QOps.st rfl rfl (Yl.call callable20 (.cons rfl (.nil)) (fun w' hw' => sConvoyLength_spec ((Rd.row (i := 1) rfl) w' hw'))) ?_
                  refine QOps.st rfl rfl (Yv.move rfl).yl ?_
                  refine QOps.st rfl rfl (Yv.extract rfl rfl).yl ?_
                  refine QOps.st rfl rfl (Yv.extract rfl rfl).yl ?_
                  refine QOps.st rfl rfl (Yv.assign rfl).yl ?_
                  refine QOps.st rfl rfl (Yv.assign rfl).yl ?_
                  refine QOps.nil ?_
                  refine Run.seq ?_
                  refine Run.quiet (by intro h; cases h) ?_
                  refine QOps.st rfl rfl (Yv.move rfl).yl ?_
                  refine QOps.st rfl rfl (Yv.move rfl).yl ?_
                  refine QOps.st rfl rfl (Yv.eqI rfl rfl).yl ?_
                  refine QOps.st rfl rfl (Yv.move rfl).yl ?_
                  refine' QOps.and [_, _, _] _ (.tmp 242) rfl rfl rfl rfl rfl rfl (fun hg21 => ?_) ?_
                  rotate_left
                  · try replace hg21 := of_decide_eq_true hg21
                    refine QOps.st rfl rfl (Yv.move rfl).yl ?_
                    refine QOps.st rfl rfl (Yv.move rfl).yl ?_
                    refine QOps.st rfl rfl (Yv.eqB bool4 rfl rfl).yl ?_
                    exact QOps.nil rfl
                  refine QOps.st rfl rfl (Yv.assign rfl).yl ?_
                  refine QOps.nil ?_
                  refine Run.ret ?_
                  refine retQ.of (.inr rfl) rfl (.tmp rfl .nil) (fun w' hw' => ?_)
                  refine ⟨?_, hw'.bel.below⟩
                  refine retB_eq ?_
                  simp
      · try replace hc3 := of_decide_eq_false hc3
        refine Run.skip ?_
        refine Run.seq ?_
        refine Run.ops ?_
        refine SOps.st rfl rfl (Yv.move rfl).yl ?_
        refine SOps.one rfl (One.callER2 rfl callable50 (.cons rfl (.nil)) (fun w' hw' => DrawJoinConvoys_spec ((Rd.arg hs) w' hw')) ?_)
        rintro ⟨ya9, yb9, yd9, ye9⟩ Aq9 cq9 Bq9 dq9 ⟨hx9, hy9⟩
        try dsimp only at *
        refine SOps.st rfl rfl (Yv.move rfl).yl ?_
        refine SOps.st rfl rfl (Yv.extract rfl rfl).yl ?_
        refine SOps.st rfl rfl (Yv.extract rfl rfl).yl ?_
        refine SOps.one rfl (One.alloc rfl zero27 (fun b15 => ?_))
        refine SOps.one rfl (One.alloc rfl zero27 (fun b16 => ?_))
        refine SOps.one rfl (One.store (i := 1) (off := 0) (vs := [_, _]) (cs' := [_, _]) (H' := [_, _, _, _, _, _, _, _, _, _, _, _]) lay27 rfl rfl rfl rfl rfl rfl rfl rfl rfl rfl ?_)
        refine SOps.one rfl (One.store (i := 0) (off := 0) (vs := [_, _]) (cs' := [_, _]) (H' := [_, _, _, _, _, _, _, _, _, _, _, _]) lay27 rfl rfl rfl rfl rfl rfl rfl rfl rfl rfl ?_)
        refine SOps.nil ?_
        refine Run.seq ?_
        refine Run.ops ?_
        refine SOps.st rfl rfl (Yv.loadBs (i := 1) lay27 rfl rfl rfl rfl).yl ?_
        refine SOps.st rfl rfl (Yv.loadBs (i := 0) lay27 rfl rfl rfl rfl).yl ?_
        refine SOps.one rfl (One.callRow rfl callable37 (.cons rfl (.cons rfl (.nil))) (fun w' hw' => JoinConvoys_spec ((Rd.row (i := 2) rfl) w' hw') ((Rd.row (i := 3) rfl) w' hw') (by omega) (by omega)) (fun A13 c13 => ?_))
        refine SOps.st rfl rfl (Yv.move rfl).yl ?_
        refine SOps.st rfl rfl (Yv.extract rfl rfl).yl ?_
        refine SOps.st rfl rfl (Yv.extract rfl rfl).yl ?_
        refine SOps.one rfl (One.alloc rfl zero27 (fun b17 => ?_))
        refine SOps.one rfl (One.store (i := 0) (off := 0) (vs := [_, _]) (cs' := [_, _]) (H' := [_, _, _, _, _, _, _, _, _, _, _, _, _, _]) lay27 rfl rfl rfl rfl rfl rfl rfl rfl rfl rfl ?_)
        refine SOps.st rfl rfl (Yv.assign rfl).yl ?_
        refine SOps.nil ?_
        refine Run.seq ?_
        refine Run.seq ?_
        refine Run.ops ?_
        refine SOps.st rfl rfl (Yv.loadBs (i := 3) lay27 rfl rfl rfl rfl).yl ?_
        refine SOps.st rfl rfl (Yv.loadBs (i := 2) lay27 rfl rfl rfl rfl).yl ?_
        refine SOps.one rfl (One.callRow rfl callable36 (.cons rfl (.cons rfl (.nil))) (fun w' hw' => sJoinConvoys_spec ((Rd.row (i := 4) rfl) w' hw') ((Rd.row (i := 5) rfl) w' hw') (by omega) (by omega)) (fun A14 c14 => ?_))
        refine SOps.st rfl rfl (Yv.move rfl).yl ?_
        refine SOps.st rfl rfl (Yv.extract rfl rfl).yl ?_
        refine SOps.st rfl rfl (Yv.extract rfl rfl).yl ?_
        refine SOps.one rfl (One.alloc rfl zero27 (fun b18 => ?_))
        refine SOps.one rfl (One.store (i := 0) (off := 0) (vs := [_, _]) (cs' := [_, _]) (H' := [_, _, _, _, _, _, _, _, _, _, _, _, _, _, _, _]) lay27 rfl rfl rfl rfl rfl rfl rfl rfl rfl rfl ?_)
        refine SOps.st rfl rfl (Yv.assign rfl).yl ?_
        refine SOps.nil ?_
        refine Run.seq ?_
        refine Run.quiet (by intro h; cases h) ?_
        refine QOps.st rfl rfl (Yv.move rfl).yl ?_
        refine QOps.st rfl rfl (Yv.move rfl).yl ?_
        refine QOps.st rfl rfl (Yv.neB bool4 rfl rfl).yl ?_
        refine QOps.st rfl rfl (Yv.move rfl).yl ?_
        refine' QOps.or [_, _, _, _] _ (.tmp 139) rfl rfl rfl rfl rfl rfl (fun hg22 => ?_) ?_
        rotate_left
        · try replace hg22 := of_decide_eq_false hg22
          refine QOps.st rfl rfl (Yv.loadBs (i := 2) lay27 rfl rfl rfl rfl).yl ?_
          refine QOps.st rfl rfl (Yv.loadBs (i := 0) lay27 rfl rfl rfl rfl).yl ?_
          refine QOps.st rfl rfl (Yl.call callable49 (.cons rfl (.cons rfl (.nil))) (fun w' hw' => vConvoy_spec ((Rd.row (i := 3) rfl) w' hw') ((Rd.row (i := 1) rfl) w' hw'))) ?_
          refine QOps.st rfl rfl (Yv.not rfl).yl ?_
          exact QOps.nil rfl
        refine QOps.nil ?_
        refine Run.cond rfl (fun hc14 => ?_) (fun hc14 => ?_)
        · exfalso
          simp at hc14
        · try replace hc14 := of_decide_eq_false hc14
          refine Run.skip ?_
          refine Run.seq ?_
          refine Run.seq ?_
          refine Run.quiet (by intro h; cases h) ?_
          refine QOps.st rfl rfl (Yv.move rfl).yl ?_
          refine QOps.nil ?_
          refine Run.cond rfl (fun hc15 => ?_) (fun hc15 => ?_)
          · try replace hc15 := of_decide_eq_true hc15
            have hJ := joined hc15
            have hjl := joinL_len (p := ya9) (l := yb9) (p2 := yd9) (l2 := ye9)
            refine Run.seq ?_
            refine Run.ops ?_
            refine SOps.st rfl rfl (Yv.loadBs (i := 2) lay27 rfl rfl rfl rfl).yl ?_
            refine SOps.st rfl rfl (Yv.fieldAddr fld27_1 rfl).yl ?_
            refine SOps.st rfl rfl (Yv.loadB (i := 5) lay22 rfl rfl rfl rfl).yl ?_
            refine SOps.st rfl rfl (Yv.lenS el22s rfl).yl ?_
            refine SOps.one rfl (One.callRow2 rfl callable41 (.cons rfl (.cons rfl (.cons rfl (.nil)))) (fun w' hw' => LeaveBarges_spec ((Rd.row (i := 3) rfl) w' hw') (by omega)) (fun A15 c15 A16 c16 => ?_))
            refine SOps.st rfl rfl (Yv.move rfl).yl ?_
            refine SOps.st rfl rfl (Yv.extract rfl rfl).yl ?_
            refine SOps.st rfl rfl (Yv.extract rfl rfl).yl ?_
            refine SOps.st rfl rfl (Yv.extract rfl rfl).yl ?_
            refine SOps.one rfl (One.alloc rfl zero27 (fun b19 => ?_))
            refine SOps.one rfl (One.store (i := 0) (off := 0) (vs := [_, _]) (cs' := [_, _]) (H' := [_, _, _, _, _, _, _, _, _, _, _, _, _, _, _, _, _, _, _]) lay27 rfl rfl rfl rfl rfl rfl rfl rfl rfl rfl ?_)
            refine SOps.st rfl rfl (Yv.assign rfl).yl ?_
            refine SOps.st rfl rfl (Yv.assign rfl).yl ?_
            refine SOps.nil ?_
            rw [hJ.ok, hJ.rest, hJ.gone]
            refine Run.seq ?_
            refine Run.quiet (by intro h; cases h) ?_
            refine QOps.st rfl rfl (Yv.move rfl).yl ?_
            refine QOps.st rfl rfl (Yv.not rfl).yl ?_
            refine QOps.st rfl rfl (Yv.move rfl).yl ?_
            refine' QOps.or [_, _, _, _, _, _] _ (.tmp 159) rfl rfl rfl rfl rfl rfl (fun hg23 => ?_) ?_
            rotate_left
            · try replace hg23 := of_decide_eq_false hg23
              refine QOps.st rfl rfl (Yv.fieldAddr fld27_1 rfl).yl ?_
              refine QOps.st rfl rfl (Yv.loadB (i := 0) lay22 rfl rfl rfl rfl).yl ?_
              refine QOps.st rfl rfl (Yv.fieldAddr fld27_1 rfl).yl ?_
              refine QOps.st rfl rfl (Yv.loadB (i := 7) lay22 rfl rfl rfl rfl).yl ?_
              refine QOps.st rfl rfl (Yl.call callable28 (.cons rfl (.cons rfl (.nil))) (fun w' hw' => vInts_spec ((Rd.row (i := 1) rfl) w' hw') ((Rd.row (i := 10) rfl) w' hw'))) ?_
              refine QOps.st rfl rfl (Yv.not rfl).yl ?_
              exact QOps.nil rfl
            refine QOps.st rfl rfl (Yv.move rfl).yl ?_
            refine' QOps.or [_, _, _, _, _] _ (.tmp 166) rfl rfl rfl rfl rfl rfl (fun hg24 => ?_) ?_
            rotate_left
            · try replace hg24 := of_decide_eq_false hg24
              refine QOps.st rfl rfl (Yv.move rfl).yl ?_
              refine QOps.st rfl rfl (Yv.fieldAddr fld27_1 rfl).yl ?_
              refine QOps.st rfl rfl (Yv.loadB (i := 8) lay22 rfl rfl rfl rfl).yl ?_
              refine QOps.st rfl rfl (Yl.call callable28 (.cons rfl (.cons rfl (.nil))) (fun w' hw' => vInts_spec ((Rd.row (i := 2) rfl) w' hw') ((Rd.row (i := 9) rfl) w' hw'))) ?_
              refine QOps.st rfl rfl (Yv.not rfl).yl ?_
              exact QOps.nil rfl
            refine QOps.nil ?_
            refine Run.cond rfl (fun hc16 => ?_) (fun hc16 => ?_)
            · exfalso
              simp at hc16
            · try replace hc16 := of_decide_eq_false hc16
              refine Run.skip ?_
              refine Run.seq ?_
              refine Run.ops ?_
              refine SOps.st rfl rfl (Yv.move rfl).yl ?_
              refine SOps.one rfl (One.callER rfl callable51 (.cons rfl (.nil)) (fun w' hw' => DrawShortestChamber_spec ((Rd.arg hs) w' hw')) ?_)
              rintro ⟨ya10, yb10, yd10⟩ Aq10 cq10 hx10
              try dsimp only at *
              refine SOps.st rfl rfl (Yv.move rfl).yl ?_
              refine SOps.st rfl rfl (Yv.extract rfl rfl).yl ?_
              refine SOps.st rfl rfl (Yv.extract rfl rfl).yl ?_
              refine SOps.one rfl (One.alloc rfl zero27 (fun b20 => ?_))
              refine SOps.one rfl (One.store (i := 0) (off := 0) (vs := [_, _]) (cs' := [_, _]) (H' := [_, _, _, _, _, _, _, _, _, _, _, _, _, _, _, _, _, _, _, _, _]) lay27 rfl rfl rfl rfl rfl rfl rfl rfl rfl rfl ?_)
              refine SOps.st rfl rfl (Yv.assign rfl).yl ?_
              refine SOps.nil ?_
              refine Run.seq ?_
              refine Run.quiet (by intro h; cases h) ?_
              refine QOps.st rfl rfl (Yv.loadBs (i := 0) lay27 rfl rfl rfl rfl).yl ?_
              refine QOps.st rfl rfl (Yv.move rfl).yl ?_
              refine QOps.st rfl rfl (Yl.call callable46 (.cons rfl (.cons rfl (.nil))) (fun w' hw' => ShortestChamber_spec ((Rd.row (i := 1) rfl) w' hw'))) ?_
              refine QOps.st rfl rfl (Yv.move rfl).yl ?_
              refine QOps.st rfl rfl (Yv.extract rfl rfl).yl ?_
              refine QOps.st rfl rfl (Yv.extract rfl rfl).yl ?_
              refine QOps.st rfl rfl (Yv.assign rfl).yl ?_
              refine QOps.st rfl rfl (Yv.assign rfl).yl ?_
              refine QOps.nil ?_
              refine Run.seq ?_
              refine Run.seq ?_
              refine Run.quiet (by intro h; cases h) ?_
              refine QOps.st rfl rfl (Yv.loadBs (i := 0) lay27 rfl rfl rfl rfl).yl ?_
              refine QOps.st rfl rfl (Yv.move rfl).yl ?_
              refine QOps.st rfl rfl (Yl.call callable45 (.cons rfl (.cons rfl (.nil))) (fun w' hw' => sShortestChamber_spec ((Rd.row (i := 1) rfl) w' hw'))) ?_
              refine QOps.st rfl rfl (Yv.move rfl).yl ?_
              refine QOps.st rfl rfl (Yv.extract rfl rfl).yl ?_
              refine QOps.st rfl rfl (Yv.extract rfl rfl).yl ?_
              refine QOps.st rfl rfl (Yv.assign rfl).yl ?_
              refine QOps.st rfl rfl (Yv.assign rfl).yl ?_
              refine QOps.nil ?_
              refine Run.seq ?_
              refine Run.quiet (by intro h; cases h) ?_
              refine QOps.st rfl rfl (Yv.move rfl).yl ?_
              refine QOps.st rfl rfl (Yv.move rfl).yl ?_
              refine QOps.st rfl rfl (Yv.neI rfl rfl).yl ?_
              refine QOps.st rfl rfl (Yv.move rfl).yl ?_
              refine' QOps.or [_, _, _] _ (.tmp 191) rfl rfl rfl rfl rfl rfl (fun hg25 => ?_) ?_
              rotate_left
              · try replace hg25 := of_decide_eq_false hg25
                refine QOps.st rfl rfl (Yv.move rfl).yl ?_
                refine QOps.st rfl rfl (Yv.move rfl).yl ?_
                refine QOps.st rfl rfl (Yv.neB bool4 rfl rfl).yl ?_
                exact QOps.nil rfl
              refine QOps.nil ?_
              refine Run.cond rfl (fun hc17 => ?_) (fun hc17 => ?_)
              · exfalso
                simp at hc17
              · try replace hc17 := of_decide_eq_false hc17
                refine Run.skip ?_
                refine Run.seq ?_
                refine Run.seq ?_
                refine Run.quiet (by intro h; cases h) ?_
                refine QOps.st rfl rfl (Yv.move rfl).yl ?_
                refine QOps.nil ?_
                refine Run.cond rfl (fun hc18 => ?_) (fun hc18 => ?_)
                · try replace hc18 := of_decide_eq_true hc18
                  have hS := short hc18
                  have hSb := hS.bnd
                  refine Run.seq ?_
                  refine Run.ops ?_
                  refine SOps.st rfl rfl (Yv.loadBs (i := 0) lay27 rfl rfl rfl rfl).yl ?_
                  refine SOps.st rfl rfl (Yv.move rfl).yl ?_
                  refine SOps.one rfl (One.callRow rfl callable26 (.cons rfl (.cons rfl (.nil))) (fun w' hw' => GreedySplit_spec ((Rd.row (i := 1) rfl) w' hw')) (fun A17 c17 => ?_))
                  refine SOps.st rfl rfl (Yv.move rfl).yl ?_
                  refine SOps.st rfl rfl (Yv.extract rfl rfl).yl ?_
                  refine SOps.st rfl rfl (Yv.extract rfl rfl).yl ?_
                  refine SOps.st rfl rfl (Yv.assign rfl).yl ?_
                  refine SOps.st rfl rfl (Yv.assign rfl).yl ?_
                  refine SOps.nil ?_
                  refine Run.seq ?_
                  refine Run.ops ?_
                  refine SOps.st rfl rfl (Yv.loadBs (i := 1) lay27 rfl rfl rfl rfl).yl ?_
                  refine SOps.st rfl rfl (Yv.move rfl).yl ?_
                  refine SOps.st rfl rfl (Yv.sub rfl rfl (by omega)).yl ?_
                  refine SOps.one rfl (One.callRow rfl callable26 (.cons rfl (.cons rfl (.nil))) (fun w' hw' => GreedySplit_spec ((Rd.row (i := 2) rfl) w' hw')) (fun A18 c18 => ?_))
                  refine SOps.st rfl rfl (Yv.move rfl).yl ?_
                  refine SOps.st rfl rfl (Yv.extract rfl rfl).yl ?_
                  refine SOps.st rfl rfl (Yv.extract rfl rfl).yl ?_
                  refine SOps.st rfl rfl (Yv.assign rfl).yl ?_
                  refine SOps.st rfl rfl (Yv.assign rfl).yl ?_
                  refine SOps.nil ?_
                  refine Run.seq ?_
                  refine Run.quiet (by intro h; cases h) ?_
                  refine QOps.st rfl rfl (Yv.move rfl).yl ?_
                  refine QOps.st rfl rfl (Yv.not rfl).yl ?_
                  refine QOps.st rfl rfl (Yv.move rfl).yl ?_
                  refine' QOps.or [_, _, _, _] _ (.tmp 213) rfl rfl rfl rfl rfl rfl (fun hg26 => ?_) ?_
                  rotate_left
                  · try replace hg26 := of_decide_eq_false hg26
                    refine QOps.st rfl rfl (Yv.move rfl).yl ?_
                    refine QOps.st rfl rfl (Yv.lenS el22s rfl).yl ?_
                    refine QOps.st rfl rfl (Yv.move rfl).yl ?_
                    refine QOps.st rfl rfl (Yv.gtr rfl rfl).yl ?_
                    exact QOps.nil rfl
                  refine QOps.st rfl rfl (Yv.move rfl).yl ?_
                  refine' QOps.or [_, _, _, _, _, _, _] _ (.tmp 222) rfl rfl rfl rfl rfl rfl (fun hg27 => ?_) ?_
                  rotate_left
                  · try replace hg27 := of_decide_eq_false hg27
                    refine QOps.st rfl rfl (Yv.move rfl).yl ?_
                    refine QOps.st rfl rfl (Yv.move rfl).yl ?_
                    refine' QOps.and [_, _, _, _] _ (.tmp 221) rfl rfl rfl rfl rfl rfl (fun hg28 => ?_) ?_
                    rotate_left
                    · try replace hg28 := of_decide_eq_true hg28
                      refine QOps.st rfl rfl (Yv.move rfl).yl ?_
                      refine QOps.st rfl rfl (Yv.lenS el22s rfl).yl ?_
                      refine QOps.st rfl rfl (Yv.move rfl).yl ?_
                      refine QOps.st rfl rfl (Yv.leq rfl rfl).yl ?_
                      exact QOps.nil rfl
                    exact QOps.nil rfl
                  refine QOps.nil ?_
                  refine Run.cond rfl (fun hc19 => ?_) (fun hc19 => ?_)
                  · exfalso
                    simp [hS.one, Int.not_lt.2 hS.le] at hc19
                    exact hS.less hc19.1 hc19.2
                  · try replace hc19 := of_decide_eq_false hc19
                    refine Run.skip ?_
                    refine Run.seq ?_
                    refine Run.ops ?_
                    refine SOps.st rfl rfl (Yv.move rfl).yl ?_
                    refine SOps.one rfl (One.callER rfl callable52 (.cons rfl (.nil)) (fun w' hw' => DrawConvoyLength_spec ((Rd.arg hs) w' hw')) ?_)
                    rintro ⟨ya11, yb11⟩ Aq11 cq11 hx11
                    try dsimp only at *
                    refine SOps.one rfl (One.alloc rfl zero27 (fun b21 => ?_))
                    refine SOps.one rfl (One.store (i := 0) (off := 0) (vs := [_, _]) (cs' := [_, _]) (H' := [_, _, _, _, _, _, _, _, _, _, _, _, _, _, _, _, _, _, _, _, _, _, _, _, _]) lay27 rfl rfl rfl rfl rfl rfl rfl rfl rfl rfl ?_)
                    refine SOps.nil ?_
                    refine Run.seq ?_
                    refine Run.quiet (by intro h; cases h) ?_
                    refine QOps.st rfl rfl (Yv.loadBs (i := 0) lay27 rfl rfl rfl rfl).yl ?_
                    refine QOps.st rfl rfl (Yl.call callable21 (.cons rfl (.nil)) (fun w' hw' => ConvoyLength_spec ((Rd.row (i := 1) rfl) w' hw'))) ?_
                    refine QOps.st rfl rfl (Yv.move rfl).yl ?_
                    refine QOps.st rfl rfl (Yv.extract rfl rfl).yl ?_
                    refine QOps.st rfl rfl (Yv.extract rfl rfl).yl ?_
                    refine QOps.st rfl rfl (Yv.assign rfl).yl ?_
                    refine QOps.st rfl rfl (Yv.assign rfl).yl ?_
                    refine QOps.nil ?_
                    refine Run.seq ?_
                    refine Run.quiet (by intro h; cases h) ?_
                    refine QOps.st rfl rfl (Yv.loadBs (i := 0) lay27 rfl rfl rfl rfl).yl ?_
                    refine QOps.st rfl rfl (Yl.call callable20 (.cons rfl (.nil)) (fun w' hw' => sConvoyLength_spec ((Rd.row (i := 1) rfl) w' hw'))) ?_
                    refine QOps.st rfl rfl (Yv.move rfl).yl ?_
                    refine QOps.st rfl rfl (Yv.extract rfl rfl).yl ?_
                    refine QOps.st rfl rfl (Yv.extract rfl rfl).yl ?_
                    refine QOps.st rfl rfl (Yv.assign rfl).yl ?_
                    refine QOps.st rfl rfl (Yv.assign rfl).yl ?_
                    refine QOps.nil ?_
                    refine Run.seq ?_
                    refine Run.quiet (by intro h; cases h) ?_
                    refine QOps.st rfl rfl (Yv.move rfl).yl ?_
                    refine QOps.st rfl rfl (Yv.move rfl).yl ?_
                    refine QOps.st rfl rfl (Yv.eqI rfl rfl).yl ?_
                    refine QOps.st rfl rfl (Yv.move rfl).yl ?_
                    refine' QOps.and [_, _, _] _ (.tmp 242) rfl rfl rfl rfl rfl rfl (fun hg29 => ?_) ?_
                    rotate_left
                    · try replace hg29 := of_decide_eq_true hg29
                      refine QOps.st rfl rfl (Yv.move rfl).yl ?_
                      refine QOps.st rfl rfl (Yv.move rfl).yl ?_
                      refine QOps.st rfl rfl (Yv.eqB bool4 rfl rfl).yl ?_
                      exact QOps.nil rfl
                    refine QOps.st rfl rfl (Yv.assign rfl).yl ?_
                    refine QOps.nil ?_
                    refine Run.ret ?_
                    refine retQ.of (.inr rfl) rfl (.tmp rfl .nil) (fun w' hw' => ?_)
                    refine ⟨?_, hw'.bel.below⟩
                    refine retB_eq ?_
                    simp
                · try replace hc18 := of_decide_eq_false hc18
                  refine Run.skip ?_
                  refine Run.seq ?_
                  refine Run.ops ?_
                  refine SOps.st rfl rfl (Yv.move rfl).yl ?_
                  refine SOps.one rfl (One.callER rfl callable52 (.cons rfl (.nil)) (fun w' hw' => DrawConvoyLength_spec ((Rd.arg hs) w' hw')) ?_)
                  rintro ⟨ya12, yb12⟩ Aq12 cq12 hx12
                  try dsimp only at *
                  refine SOps.one rfl (One.alloc rfl zero27 (fun b22 => ?_))
                  refine SOps.one rfl (One.store (i := 0) (off := 0) (vs := [_, _]) (cs' := [_, _]) (H' := [_, _, _, _, _, _, _, _, _, _, _, _, _, _, _, _, _, _, _, _, _, _, _]) lay27 rfl rfl rfl rfl rfl rfl rfl rfl rfl rfl ?_)
                  refine SOps.nil ?_
                  refine Run.seq ?_
                  refine Run.quiet (by intro h; cases h) ?_
                  refine QOps.st rfl rfl (Yv.loadBs (i := 0) lay27 rfl rfl rfl rfl).yl ?_
                  refine QOps.st rfl rfl (Yl.call callable21 (.cons rfl (.nil)) (fun w' hw' => ConvoyLength_spec ((Rd.row (i := 1) rfl) w' hw'))) ?_
                  refine QOps.st rfl rfl (Yv.move rfl).yl ?_
                  refine QOps.st rfl rfl (Yv.extract rfl rfl).yl ?_
                  refine QOps.st rfl rfl (Yv.extract rfl rfl).yl ?_
                  refine QOps.st rfl rfl (Yv.assign rfl).yl ?_
                  refine QOps.st rfl rfl (Yv.assign rfl).yl ?_
                  refine QOps.nil ?_
                  refine Run.seq ?_
                  refine Run.quiet (by intro h; cases h) ?_
                  refine QOps.st rfl rfl (Yv.loadBs (i := 0) lay27 rfl rfl rfl rfl).yl ?_
                  refine QOps.st rfl rfl (Yl.call callable20 (.cons rfl (.nil)) (fun w' hw' => sConvoyLength_spec ((Rd.row (i := 1) rfl) w' hw'))) ?_
                  refine QOps.st rfl rfl (Yv.move rfl).yl ?_
                  refine QOps.st rfl rfl (Yv.extract rfl rfl).yl ?_
                  refine QOps.st rfl rfl (Yv.extract rfl rfl).yl ?_
                  refine QOps.st rfl rfl (Yv.assign rfl).yl ?_
                  refine QOps.st rfl rfl (Yv.assign rfl).yl ?_
                  refine QOps.nil ?_
                  refine Run.seq ?_
                  refine Run.quiet (by intro h; cases h) ?_
                  refine QOps.st rfl rfl (Yv.move rfl).yl ?_
                  refine QOps.st rfl rfl (Yv.move rfl).yl ?_
                  refine QOps.st rfl rfl (Yv.eqI rfl rfl).yl ?_
                  refine QOps.st rfl rfl (Yv.move rfl).yl ?_
                  refine' QOps.and [_, _, _] _ (.tmp 242) rfl rfl rfl rfl rfl rfl (fun hg30 => ?_) ?_
                  rotate_left
                  · try replace hg30 := of_decide_eq_true hg30
                    refine QOps.st rfl rfl (Yv.move rfl).yl ?_
                    refine QOps.st rfl rfl (Yv.move rfl).yl ?_
                    refine QOps.st rfl rfl (Yv.eqB bool4 rfl rfl).yl ?_
                    exact QOps.nil rfl
                  refine QOps.st rfl rfl (Yv.assign rfl).yl ?_
                  refine QOps.nil ?_
                  refine Run.ret ?_
                  refine retQ.of (.inr rfl) rfl (.tmp rfl .nil) (fun w' hw' => ?_)
                  refine ⟨?_, hw'.bel.below⟩
                  refine retB_eq ?_
                  simp
          · try replace hc15 := of_decide_eq_false hc15
            refine Run.skip ?_
            refine Run.seq ?_
            refine Run.ops ?_
            refine SOps.st rfl rfl (Yv.move rfl).yl ?_
            refine SOps.one rfl (One.callER rfl callable51 (.cons rfl (.nil)) (fun w' hw' => DrawShortestChamber_spec ((Rd.arg hs) w' hw')) ?_)
            rintro ⟨ya13, yb13, yd13⟩ Aq13 cq13 hx13
            try dsimp only at *
            refine SOps.st rfl rfl (Yv.move rfl).yl ?_
            refine SOps.st rfl rfl (Yv.extract rfl rfl).yl ?_
            refine SOps.st rfl rfl (Yv.extract rfl rfl).yl ?_
            refine SOps.one rfl (One.alloc rfl zero27 (fun b23 => ?_))
            refine SOps.one rfl (One.store (i := 0) (off := 0) (vs := [_, _]) (cs' := [_, _]) (H' := [_, _, _, _, _, _, _, _, _, _, _, _, _, _, _, _, _, _]) lay27 rfl rfl rfl rfl rfl rfl rfl rfl rfl rfl ?_)
            refine SOps.st rfl rfl (Yv.assign rfl).yl ?_
            refine SOps.nil ?_
            refine Run.seq ?_
            refine Run.quiet (by intro h; cases h) ?_
            refine QOps.st rfl rfl (Yv.loadBs (i := 0) lay27 rfl rfl rfl rfl).yl ?_
            refine QOps.st rfl rfl (Yv.move rfl).yl ?_
            refine QOps.st rfl rfl (Yl.call callable46 (.cons rfl (.cons rfl (.nil))) (fun w' hw' => ShortestChamber_spec ((Rd.row (i := 1) rfl) w' hw'))) ?_
            refine QOps.st rfl rfl (Yv.move rfl).yl ?_
            refine QOps.st rfl rfl (Yv.extract rfl rfl).yl ?_
            refine QOps.st rfl rfl (Yv.extract rfl rfl).yl ?_
            refine QOps.st rfl rfl (Yv.assign rfl).yl ?_
            refine QOps.st rfl rfl (Yv.assign rfl).yl ?_
            refine QOps.nil ?_
            refine Run.seq ?_
            refine Run.seq ?_
            refine Run.quiet (by intro h; cases h) ?_
            refine QOps.st rfl rfl (Yv.loadBs (i := 0) lay27 rfl rfl rfl rfl).yl ?_
            refine QOps.st rfl rfl (Yv.move rfl).yl ?_
            refine QOps.st rfl rfl (Yl.call callable45 (.cons rfl (.cons rfl (.nil))) (fun w' hw' => sShortestChamber_spec ((Rd.row (i := 1) rfl) w' hw'))) ?_
            refine QOps.st rfl rfl (Yv.move rfl).yl ?_
            refine QOps.st rfl rfl (Yv.extract rfl rfl).yl ?_
            refine QOps.st rfl rfl (Yv.extract rfl rfl).yl ?_
            refine QOps.st rfl rfl (Yv.assign rfl).yl ?_
            refine QOps.st rfl rfl (Yv.assign rfl).yl ?_
            refine QOps.nil ?_
            refine Run.seq ?_
            refine Run.quiet (by intro h; cases h) ?_
            refine QOps.st rfl rfl (Yv.move rfl).yl ?_
            refine QOps.st rfl rfl (Yv.move rfl).yl ?_
            refine QOps.st rfl rfl (Yv.neI rfl rfl).yl ?_
            refine QOps.st rfl rfl (Yv.move rfl).yl ?_
            refine' QOps.or [_, _, _] _ (.tmp 191) rfl rfl rfl rfl rfl rfl (fun hg31 => ?_) ?_
            rotate_left
            · try replace hg31 := of_decide_eq_false hg31
              refine QOps.st rfl rfl (Yv.move rfl).yl ?_
              refine QOps.st rfl rfl (Yv.move rfl).yl ?_
              refine QOps.st rfl rfl (Yv.neB bool4 rfl rfl).yl ?_
              exact QOps.nil rfl
            refine QOps.nil ?_
            refine Run.cond rfl (fun hc20 => ?_) (fun hc20 => ?_)
            · exfalso
              simp at hc20
            · try replace hc20 := of_decide_eq_false hc20
              refine Run.skip ?_
              refine Run.seq ?_
              refine Run.seq ?_
              refine Run.quiet (by intro h; cases h) ?_
              refine QOps.st rfl rfl (Yv.move rfl).yl ?_
              refine QOps.nil ?_
              refine Run.cond rfl (fun hc21 => ?_) (fun hc21 => ?_)
              · try replace hc21 := of_decide_eq_true hc21
                have hS := short hc21
                have hSb := hS.bnd
                refine Run.seq ?_
                refine Run.ops ?_
                refine SOps.st rfl rfl (Yv.loadBs (i := 0) lay27 rfl rfl rfl rfl).yl ?_
                refine SOps.st rfl rfl (Yv.move rfl).yl ?_
                refine SOps.one rfl (One.callRow rfl callable26 (.cons rfl (.cons rfl (.nil))) (fun w' hw' => GreedySplit_spec ((Rd.row (i := 1) rfl) w' hw')) (fun A19 c19 => ?_))
                refine SOps.st rfl rfl (Yv.move rfl).yl ?_
                refine SOps.st rfl rfl (Yv.extract rfl rfl).yl ?_
                refine SOps.st rfl rfl (Yv.extract rfl rfl).yl ?_
                refine SOps.st rfl rfl (Yv.assign rfl).yl ?_
                refine SOps.st rfl rfl (Yv.assign rfl).yl ?_
                refine SOps.nil ?_
                refine Run.seq ?_
                refine Run.ops ?_
                refine SOps.st rfl rfl (Yv.loadBs (i := 1) lay27 rfl rfl rfl rfl).yl ?_
                refine SOps.st rfl rfl (Yv.move rfl).yl ?_
                refine SOps.st rfl rfl (Yv.sub rfl rfl (by omega)).yl ?_
                refine SOps.one rfl (One.callRow rfl callable26 (.cons rfl (.cons rfl (.nil))) (fun w' hw' => GreedySplit_spec ((Rd.row (i := 2) rfl) w' hw')) (fun A20 c20 => ?_))
                refine SOps.st rfl rfl (Yv.move rfl).yl ?_
                refine SOps.st rfl rfl (Yv.extract rfl rfl).yl ?_
                refine SOps.st rfl rfl (Yv.extract rfl rfl).yl ?_
                refine SOps.st rfl rfl (Yv.assign rfl).yl ?_
                refine SOps.st rfl rfl (Yv.assign rfl).yl ?_
                refine SOps.nil ?_
                refine Run.seq ?_
                refine Run.quiet (by intro h; cases h) ?_
                refine QOps.st rfl rfl (Yv.move rfl).yl ?_
                refine QOps.st rfl rfl (Yv.not rfl).yl ?_
                refine QOps.st rfl rfl (Yv.move rfl).yl ?_
                refine' QOps.or [_, _, _, _] _ (.tmp 213) rfl rfl rfl rfl rfl rfl (fun hg32 => ?_) ?_
                rotate_left
                · try replace hg32 := of_decide_eq_false hg32
                  refine QOps.st rfl rfl (Yv.move rfl).yl ?_
                  refine QOps.st rfl rfl (Yv.lenS el22s rfl).yl ?_
                  refine QOps.st rfl rfl (Yv.move rfl).yl ?_
                  refine QOps.st rfl rfl (Yv.gtr rfl rfl).yl ?_
                  exact QOps.nil rfl
                refine QOps.st rfl rfl (Yv.move rfl).yl ?_
                refine' QOps.or [_, _, _, _, _, _, _] _ (.tmp 222) rfl rfl rfl rfl rfl rfl (fun hg33 => ?_) ?_
                rotate_left
                · try replace hg33 := of_decide_eq_false hg33
                  refine QOps.st rfl rfl (Yv.move rfl).yl ?_
                  refine QOps.st rfl rfl (Yv.move rfl).yl ?_
                  refine' QOps.and [_, _, _, _] _ (.tmp 221) rfl rfl rfl rfl rfl rfl (fun hg34 => ?_) ?_
                  rotate_left
                  · try replace hg34 := of_decide_eq_true hg34
                    refine QOps.st rfl rfl (Yv.move rfl).yl ?_
                    refine QOps.st rfl rfl (Yv.lenS el22s rfl).yl ?_
                    refine QOps.st rfl rfl (Yv.move rfl).yl ?_
                    refine QOps.st rfl rfl (Yv.leq rfl rfl).yl ?_
                    exact QOps.nil rfl
                  exact QOps.nil rfl
                refine QOps.nil ?_
                refine Run.cond rfl (fun hc22 => ?_) (fun hc22 => ?_)
                · exfalso
                  simp [hS.one, Int.not_lt.2 hS.le] at hc22
                  exact hS.less hc22.1 hc22.2
                · try replace hc22 := of_decide_eq_false hc22
                  refine Run.skip ?_
                  refine Run.seq ?_
                  refine Run.ops ?_
                  refine SOps.st rfl rfl (Yv.move rfl).yl ?_
                  refine SOps.one rfl (One.callER rfl callable52 (.cons rfl (.nil)) (fun w' hw' => DrawConvoyLength_spec ((Rd.arg hs) w' hw')) ?_)
                  rintro ⟨ya14, yb14⟩ Aq14 cq14 hx14
                  try dsimp only at *
                  refine SOps.one rfl (One.alloc rfl zero27 (fun b24 => ?_))
                  refine SOps.one rfl (One.store (i := 0) (off := 0) (vs := [_, _]) (cs' := [_, _]) (H' := [_, _, _, _, _, _, _, _, _, _, _, _, _, _, _, _, _, _, _, _, _, _]) lay27 rfl rfl rfl rfl rfl rfl rfl rfl rfl rfl ?_)
                  refine SOps.nil ?_
                  refine Run.seq ?_
                  refine Run.quiet (by intro h; cases h) ?_
                  refine QOps.st rfl rfl (Yv.loadBs (i := 0) lay27 rfl rfl rfl rfl).yl ?_
                  refine QOps.st rfl rfl (Yl.call callable21 (.cons rfl (.nil)) (fun w' hw' => ConvoyLength_spec ((Rd.row (i := 1) rfl) w' hw'))) ?_
                  refine QOps.st rfl rfl (Yv.move rfl).yl ?_
                  refine QOps.st rfl rfl (Yv.extract rfl rfl).yl ?_
                  refine QOps.st rfl rfl (Yv.extract rfl rfl).yl ?_
                  refine QOps.st rfl rfl (Yv.assign rfl).yl ?_
                  refine QOps.st rfl rfl (Yv.assign rfl).yl ?_
                  refine QOps.nil ?_
                  refine Run.seq ?_
                  refine Run.quiet (by intro h; cases h) ?_
                  refine QOps.st rfl rfl (Yv.loadBs (i := 0) lay27 rfl rfl rfl rfl).yl ?_
                  refine QOps.st rfl rfl (Yl.call callable20 (.cons rfl (.nil)) (fun w' hw' => sConvoyLength_spec ((Rd.row (i := 1) rfl) w' hw'))) ?_
                  refine QOps.st rfl rfl (Yv.move rfl).yl ?_
                  refine QOps.st rfl rfl (Yv.extract rfl rfl).yl ?_
                  refine QOps.st rfl rfl (Yv.extract rfl rfl).yl ?_
                  refine QOps.st rfl rfl (Yv.assign rfl).yl ?_
                  refine QOps.st rfl rfl (Yv.assign rfl).yl ?_
                  refine QOps.nil ?_
                  refine Run.seq ?_
                  refine Run.quiet (by intro h; cases h) ?_
                  refine QOps.st rfl rfl (Yv.move rfl).yl ?_
                  refine QOps.st rfl rfl (Yv.move rfl).yl ?_
                  refine QOps.st rfl rfl (Yv.eqI rfl rfl).yl ?_
                  refine QOps.st rfl rfl (Yv.move rfl).yl ?_
                  refine' QOps.and [_, _, _] _ (.tmp 242) rfl rfl rfl rfl rfl rfl (fun hg35 => ?_) ?_
                  rotate_left
                  · try replace hg35 := of_decide_eq_true hg35
                    refine QOps.st rfl rfl (Yv.move rfl).yl ?_
                    refine QOps.st rfl rfl (Yv.move rfl).yl ?_
                    refine QOps.st rfl rfl (Yv.eqB bool4 rfl rfl).yl ?_
                    exact QOps.nil rfl
                  refine QOps.st rfl rfl (Yv.assign rfl).yl ?_
                  refine QOps.nil ?_
                  refine Run.ret ?_
                  refine retQ.of (.inr rfl) rfl (.tmp rfl .nil) (fun w' hw' => ?_)
                  refine ⟨?_, hw'.bel.below⟩
                  refine retB_eq ?_
                  simp
              · try replace hc21 := of_decide_eq_false hc21
                refine Run.skip ?_
                refine Run.seq ?_
                refine Run.ops ?_
                refine SOps.st rfl rfl (Yv.move rfl).yl ?_
                refine SOps.one rfl (One.callER rfl callable52 (.cons rfl (.nil)) (fun w' hw' => DrawConvoyLength_spec ((Rd.arg hs) w' hw')) ?_)
                rintro ⟨ya15, yb15⟩ Aq15 cq15 hx15
                try dsimp only at *
                refine SOps.one rfl (One.alloc rfl zero27 (fun b25 => ?_))
                refine SOps.one rfl (One.store (i := 0) (off := 0) (vs := [_, _]) (cs' := [_, _]) (H' := [_, _, _, _, _, _, _, _, _, _, _, _, _, _, _, _, _, _, _, _]) lay27 rfl rfl rfl rfl rfl rfl rfl rfl rfl rfl ?_)
                refine SOps.nil ?_
                refine Run.seq ?_
                refine Run.quiet (by intro h; cases h) ?_
                refine QOps.st rfl rfl (Yv.loadBs (i := 0) lay27 rfl rfl rfl rfl).yl ?_
                refine QOps.st rfl rfl (Yl.call callable21 (.cons rfl (.nil)) (fun w' hw' => ConvoyLength_spec ((Rd.row (i := 1) rfl) w' hw'))) ?_
                refine QOps.st rfl rfl (Yv.move rfl).yl ?_
                refine QOps.st rfl rfl (Yv.extract rfl rfl).yl ?_
                refine QOps.st rfl rfl (Yv.extract rfl rfl).yl ?_
                refine QOps.st rfl rfl (Yv.assign rfl).yl ?_
                refine QOps.st rfl rfl (Yv.assign rfl).yl ?_
                refine QOps.nil ?_
                refine Run.seq ?_
                refine Run.quiet (by intro h; cases h) ?_
                refine QOps.st rfl rfl (Yv.loadBs (i := 0) lay27 rfl rfl rfl rfl).yl ?_
                refine QOps.st rfl rfl (Yl.call callable20 (.cons rfl (.nil)) (fun w' hw' => sConvoyLength_spec ((Rd.row (i := 1) rfl) w' hw'))) ?_
                refine QOps.st rfl rfl (Yv.move rfl).yl ?_
                refine QOps.st rfl rfl (Yv.extract rfl rfl).yl ?_
                refine QOps.st rfl rfl (Yv.extract rfl rfl).yl ?_
                refine QOps.st rfl rfl (Yv.assign rfl).yl ?_
                refine QOps.st rfl rfl (Yv.assign rfl).yl ?_
                refine QOps.nil ?_
                refine Run.seq ?_
                refine Run.quiet (by intro h; cases h) ?_
                refine QOps.st rfl rfl (Yv.move rfl).yl ?_
                refine QOps.st rfl rfl (Yv.move rfl).yl ?_
                refine QOps.st rfl rfl (Yv.eqI rfl rfl).yl ?_
                refine QOps.st rfl rfl (Yv.move rfl).yl ?_
                refine' QOps.and [_, _, _] _ (.tmp 242) rfl rfl rfl rfl rfl rfl (fun hg36 => ?_) ?_
                rotate_left
                · try replace hg36 := of_decide_eq_true hg36
                  refine QOps.st rfl rfl (Yv.move rfl).yl ?_
                  refine QOps.st rfl rfl (Yv.move rfl).yl ?_
                  refine QOps.st rfl rfl (Yv.eqB bool4 rfl rfl).yl ?_
                  exact QOps.nil rfl
                refine QOps.st rfl rfl (Yv.assign rfl).yl ?_
                refine QOps.nil ?_
                refine Run.ret ?_
                refine retQ.of (.inr rfl) rfl (.tmp rfl .nil) (fun w' hw' => ?_)
                refine ⟨?_, hw'.bel.below⟩
                refine retB_eq ?_
                simp
end Go.Proofs.Ytfpglglolhlegaa
