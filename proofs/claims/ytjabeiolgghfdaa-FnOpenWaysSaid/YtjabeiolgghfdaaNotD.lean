/- Notices: the law of open ways. Conditions: none. -/
import Derived.Test.YtjabeiolgghfdaaNotA
import Derived.Test.YtjabeiolgghfdaaNotB
namespace Go.Proofs.Ytjabeiolgghfdaa
open Go.RowKit
set_option maxRecDepth 100000
theorem FnOpenWays_spec {w : World} {A : Option Addr} {c : Nat} {xs : List UInt8} (hs : Sl w 1 A xs.length c (xs.flatMap byteC)) (_hb : 1 * xs.length ≤ 281474976710656) : Calls Try.prog 11 #[.slice A xs.length c] w (RetB w (.bool true)) := by
  refine calls_of_run (vs := [_]) (L := [(0, _)]) (n := 289) (F := []) (H := []) Try.func11 rfl rfl rfl rfl (HOk.start _) ?_
  refine Run.seq ?_
  refine Run.quiet (by intro h; cases h) ?_
  refine QOps.st rfl rfl (Yv.assign rfl).yl ?_
  refine QOps.nil ?_
  refine Run.seq ?_
  refine Run.seq ?_
  refine Run.quiet (by intro h; cases h) ?_
  refine QOps.st rfl rfl (Yv.move rfl).yl ?_
  refine QOps.st rfl rfl (Yl.call callable39 (.cons rfl (.nil)) (fun w' hw' => rBig_spec)) ?_
  refine QOps.nil ?_
  refine Run.cond rfl (fun hc1 => ?_) (fun hc1 => ?_)
  · try replace hc1 := of_decide_eq_true hc1
    refine Run.seq ?_
    refine Run.quiet (by intro h; cases h) ?_
    refine QOps.st rfl rfl (Yv.assign rfl).yl ?_
    refine QOps.nil ?_
    refine Run.ret ?_
    refine retQ.of (.inr rfl) rfl (.tmp rfl .nil) (fun w' hw' => ?_)
    refine ⟨?_, hw'.bel.below⟩
    exact rfl
  · try replace hc1 := of_decide_eq_false hc1
    refine Run.skip ?_
    refine Run.seq ?_
    refine Run.ops ?_
    refine SOps.st rfl rfl (Yv.move rfl).yl ?_
    refine SOps.one rfl (One.callER rfl callable40 (.cons rfl (.nil)) (fun w' hw' => DrawIsOpen_spec ((Rd.arg hs) w' hw')) ?_)
    rintro ⟨ya1, yb1, yd1, ye1⟩ Aq1 cq1 hx1
    try dsimp only at *
    refine SOps.st rfl rfl (Yv.move rfl).yl ?_
    refine SOps.st rfl rfl (Yv.extract rfl rfl).yl ?_
    refine SOps.st rfl rfl (Yv.extract rfl rfl).yl ?_
    refine SOps.st rfl rfl (Yv.extract rfl rfl).yl ?_
    refine SOps.st rfl rfl (Yv.extract rfl rfl).yl ?_
    refine SOps.st rfl rfl (Yv.assign rfl).yl ?_
    refine SOps.st rfl rfl (Yv.assign rfl).yl ?_
    refine SOps.st rfl rfl (Yv.assign rfl).yl ?_
    refine SOps.st rfl rfl (Yv.assign rfl).yl ?_
    refine SOps.nil ?_
    refine Run.seq ?_
    refine Run.quiet (by intro h; cases h) ?_
    refine QOps.st rfl rfl (Yv.move rfl).yl ?_
    refine QOps.st rfl rfl (Yv.move rfl).yl ?_
    refine QOps.st rfl rfl (Yv.move rfl).yl ?_
    refine QOps.st rfl rfl (Yv.move rfl).yl ?_
    refine QOps.st rfl rfl (Yl.call callable22 (.cons rfl (.cons rfl (.cons rfl (.cons rfl (.nil))))) (fun w' hw' => IsOpen_spec ((Rd.row (i := 0) rfl) w' hw'))) ?_
    refine QOps.st rfl rfl (Yv.move rfl).yl ?_
    refine QOps.st rfl rfl (Yv.extract rfl rfl).yl ?_
    refine QOps.st rfl rfl (Yv.extract rfl rfl).yl ?_
    refine QOps.st rfl rfl (Yv.assign rfl).yl ?_
    refine QOps.st rfl rfl (Yv.assign rfl).yl ?_
    refine QOps.nil ?_
    refine Run.seq ?_
    refine Run.seq ?_
    refine Run.quiet (by intro h; cases h) ?_
    refine QOps.st rfl rfl (Yv.move rfl).yl ?_
    refine QOps.st rfl rfl (Yv.move rfl).yl ?_
    refine QOps.st rfl rfl (Yv.move rfl).yl ?_
    refine QOps.st rfl rfl (Yv.move rfl).yl ?_
    refine QOps.st rfl rfl (Yl.call callable21 (.cons rfl (.cons rfl (.cons rfl (.cons rfl (.nil))))) (fun w' hw' => sIsOpen_spec ((Rd.row (i := 0) rfl) w' hw'))) ?_
    refine QOps.st rfl rfl (Yv.move rfl).yl ?_
    refine QOps.st rfl rfl (Yv.extract rfl rfl).yl ?_
    refine QOps.st rfl rfl (Yv.extract rfl rfl).yl ?_
    refine QOps.st rfl rfl (Yv.assign rfl).yl ?_
    refine QOps.st rfl rfl (Yv.assign rfl).yl ?_
    refine QOps.nil ?_
    refine Run.seq ?_
    refine Run.quiet (by intro h; cases h) ?_
    refine QOps.st rfl rfl (Yv.move rfl).yl ?_
    refine QOps.st rfl rfl (Yv.move rfl).yl ?_
    refine QOps.st rfl rfl (Yv.neB bool4 rfl rfl).yl ?_
    refine QOps.st rfl rfl (Yv.move rfl).yl ?_
    refine' QOps.or [_, _, _] _ (.tmp 78) rfl rfl rfl rfl rfl rfl (fun hg1 => ?_) ?_
    rotate_left
    · try replace hg1 := of_decide_eq_false hg1
      refine QOps.st rfl rfl (Yv.move rfl).yl ?_
      refine QOps.st rfl rfl (Yv.move rfl).yl ?_
      refine QOps.st rfl rfl (Yv.neB bool4 rfl rfl).yl ?_
      exact QOps.nil rfl
    refine QOps.nil ?_
    refine Run.cond rfl (fun hc2 => ?_) (fun hc2 => ?_)
    · exfalso
      simp at hc2
    · try replace hc2 := of_decide_eq_false hc2
      refine Run.skip ?_
      refine Run.seq ?_
      refine Run.quiet (by intro h; cases h) ?_
      refine QOps.st rfl rfl (Yv.move rfl).yl ?_
      refine QOps.st rfl rfl (Yv.move rfl).yl ?_
      refine QOps.st rfl rfl (Yv.move rfl).yl ?_
      refine QOps.st rfl rfl (Yv.move rfl).yl ?_
      refine QOps.st rfl rfl (Yl.call callable24 (.cons rfl (.cons rfl (.cons rfl (.cons rfl (.nil))))) (fun w' hw' => NextOpenDay_spec ((Rd.row (i := 0) rfl) w' hw'))) ?_
      refine QOps.st rfl rfl (Yv.move rfl).yl ?_
      refine QOps.st rfl rfl (Yv.extract rfl rfl).yl ?_
      refine QOps.st rfl rfl (Yv.extract rfl rfl).yl ?_
      refine QOps.st rfl rfl (Yv.assign rfl).yl ?_
      refine QOps.st rfl rfl (Yv.assign rfl).yl ?_
      refine QOps.nil ?_
      refine Run.seq ?_
      refine Run.seq ?_
      refine Run.quiet (by intro h; cases h) ?_
      refine QOps.st rfl rfl (Yv.move rfl).yl ?_
      refine QOps.st rfl rfl (Yv.move rfl).yl ?_
      refine QOps.st rfl rfl (Yv.move rfl).yl ?_
      refine QOps.st rfl rfl (Yv.move rfl).yl ?_
      refine QOps.st rfl rfl (Yl.call callable23 (.cons rfl (.cons rfl (.cons rfl (.cons rfl (.nil))))) (fun w' hw' => sNextOpenDay_spec ((Rd.row (i := 0) rfl) w' hw'))) ?_
      refine QOps.st rfl rfl (Yv.move rfl).yl ?_
      refine QOps.st rfl rfl (Yv.extract rfl rfl).yl ?_
      refine QOps.st rfl rfl (Yv.extract rfl rfl).yl ?_
      refine QOps.st rfl rfl (Yv.assign rfl).yl ?_
      refine QOps.st rfl rfl (Yv.assign rfl).yl ?_
      refine QOps.nil ?_
      refine Run.seq ?_
      refine Run.quiet (by intro h; cases h) ?_
      refine QOps.st rfl rfl (Yv.move rfl).yl ?_
      refine QOps.st rfl rfl (Yv.move rfl).yl ?_
      refine QOps.st rfl rfl (Yv.neI rfl rfl).yl ?_
      refine QOps.st rfl rfl (Yv.move rfl).yl ?_
      refine' QOps.or [_, _, _] _ (.tmp 102) rfl rfl rfl rfl rfl rfl (fun hg2 => ?_) ?_
      rotate_left
      · try replace hg2 := of_decide_eq_false hg2
        refine QOps.st rfl rfl (Yv.move rfl).yl ?_
        refine QOps.st rfl rfl (Yv.move rfl).yl ?_
        refine QOps.st rfl rfl (Yv.neB bool4 rfl rfl).yl ?_
        exact QOps.nil rfl
      refine QOps.nil ?_
      refine Run.cond rfl (fun hc3 => ?_) (fun hc3 => ?_)
      · exfalso
        simp at hc3
      · try replace hc3 := of_decide_eq_false hc3
        refine Run.skip ?_
        refine Run.seq ?_
        refine Run.seq ?_
        refine Run.quiet (by intro h; cases h) ?_
        refine QOps.st rfl rfl (Yv.move rfl).yl ?_
        refine QOps.nil ?_
        refine Run.cond rfl (fun hc4 => ?_) (fun hc4 => ?_)
        · try replace hc4 := of_decide_eq_true hc4
          have hA : asked ya1 yb1 yd1 ye1 = true := by
                unfold isOpenOf at hc4
                split at hc4
                · assumption
                · simp at hc4
          have hAb := asked_bnd hA
          have hIo : (isOpenOf ya1 yb1 yd1 ye1).1 = openDay ya1 yb1 yd1 ye1 := by unfold isOpenOf; rw [if_pos hA]
          have hNb := next_bnd (ns := ya1) (a := yb1) (b := yd1) (d := ye1)
          refine Run.seq ?_
          refine Run.ops ?_
          refine SOps.st rfl rfl (Yv.move rfl).yl ?_
          refine SOps.st rfl rfl (Yv.move rfl).yl ?_
          refine SOps.one rfl (One.callTabT (H1 := [_]) (rs0 := ([] : List (InR Int))) rfl callable35 (.cons rfl (.cons rfl (.nil))) (fun w' hw' => OpenStretches_spec ((Rd.row (i := 0) rfl) w' hw')) ?_)
          rintro At1 ct1 rs1 hrs1
          have hrl1 : rs1.length = (strL ya1 ye1).length := by rw [← hrs1]; simp
          refine SOps.st rfl rfl (Yv.move rfl).yl ?_
          refine SOps.st rfl rfl (Yv.extract rfl rfl).yl ?_
          refine SOps.st rfl rfl (Yv.extract rfl rfl).yl ?_
          refine SOps.st rfl rfl (Yv.assign rfl).yl ?_
          refine SOps.st rfl rfl (Yv.assign rfl).yl ?_
          refine SOps.nil ?_
          refine Run.seq ?_
          refine Run.quiet (by intro h; cases h) ?_
          refine QOps.st rfl rfl (Yv.move rfl).yl ?_
          refine QOps.st rfl rfl (Yv.move rfl).yl ?_
          refine QOps.st rfl rfl (Yv.assign rfl).yl ?_
          refine QOps.st rfl rfl (Yv.assign rfl).yl ?_
          refine QOps.st rfl rfl (Yv.assign rfl).yl ?_
          refine QOps.nil ?_
          refine Run.seq ?_
          refine Run.seq ?_
          refine Run.quiet (by intro h; cases h) ?_
          refine QOps.st rfl rfl (Yv.move rfl).yl ?_
          refine QOps.st rfl rfl (Yv.move rfl).yl ?_
          refine QOps.st rfl rfl (Yv.gtr rfl rfl).yl ?_
          refine QOps.nil ?_
          refine Run.cond rfl (fun hc5 => ?_) (fun hc5 => ?_)
          · try replace hc5 := of_decide_eq_true hc5
            have hin : insTo (rs1.map InR.l) yd1 yb1 rs1.length = openDay ya1 yb1 yd1 ye1 := by
                  have h9 := inside_open hA
                  rw [← hrs1, show min yb1 yd1 = yd1 by omega, show max yb1 yd1 = yb1 by omega] at h9
                  simpa using h9
            refine Run.seq ?_
            refine Run.quiet (by intro h; cases h) ?_
            refine QOps.st rfl rfl (Yv.move rfl).yl ?_
            refine QOps.st rfl rfl (Yv.assign rfl).yl ?_
            refine QOps.nil ?_
            refine Run.quiet (by intro h; cases h) ?_
            refine QOps.st rfl rfl (Yv.move rfl).yl ?_
            refine QOps.st rfl rfl (Yv.assign rfl).yl ?_
            refine QOps.nil ?_
            refine Run.seq ?_
            refine Run.seq ?_
            refine Run.quiet (by intro h; cases h) ?_
            refine QOps.st rfl rfl (Yv.assign rfl).yl ?_
            refine QOps.nil ?_
            refine Run.block ?_
            refine Run.loop (S := Nat) (fun s => match s with | k => k ≤ rs1.length) (fun s => match s with | k => [(0, .slice A xs.length c), (3, .slice Aq1 ya1.length cq1), (4, .int .i64 yb1), (5, .int .i64 yd1), (6, .int .i64 ye1), (7, .bool (isOpenOf ya1 yb1 yd1 ye1).1), (11, .int .i64 (nextOf ya1 yb1 yd1 ye1).1), (12, .bool (nextOf ya1 yb1 yd1 ye1).2), (15, .slice At1 rs1.length ct1), (16, .bool (endOk ya1 ye1)), (17, .int .i64 yd1), (18, .int .i64 yb1), (19, .bool (insTo (rs1.map InR.l) yd1 yb1 k)), (20, .int .i64 (k : Int))]) (fun s => match s with | k => (.row At1 ct1 36 1 rs1.length (rs1.flatMap InR.enc) :: .row Aq1 cq1 59 7 ya1.length (ya1.flatMap Notice.enc) :: (([] : List (InR Int)) ++ rs1).map (InR.row 3 1 intC))) (fun s => match s with | k => rs1.length - k) 0 ?_ (SubE.cons rfl (SubE.cons rfl (SubE.cons rfl (SubE.cons rfl (SubE.cons rfl (SubE.cons rfl (SubE.cons rfl (SubE.cons rfl (SubE.cons rfl (SubE.cons rfl (SubE.cons rfl (SubE.cons rfl (SubE.cons rfl (SubE.cons rfl (SubE.nil _))))))))))))))) (List.Sublist.refl _) ?_
            · exact Nat.zero_le _
            · rintro k hk
              show Run _ _ _ _ _ [(0, .slice A xs.length c), (3, .slice Aq1 ya1.length cq1), (4, .int .i64 yb1), (5, .int .i64 yd1), (6, .int .i64 ye1), (7, .bool (isOpenOf ya1 yb1 yd1 ye1).1), (11, .int .i64 (nextOf ya1 yb1 yd1 ye1).1), (12, .bool (nextOf ya1 yb1 yd1 ye1).2), (15, .slice At1 rs1.length ct1), (16, .bool (endOk ya1 ye1)), (17, .int .i64 yd1), (18, .int .i64 yb1), (19, .bool (insTo (rs1.map InR.l) yd1 yb1 k)), (20, .int .i64 (k : Int))] (.row At1 ct1 36 1 rs1.length (rs1.flatMap InR.enc) :: .row Aq1 cq1 59 7 ya1.length (ya1.flatMap Notice.enc) :: (([] : List (InR Int)) ++ rs1).map (InR.row 3 1 intC)) _
              refine Run.seq ?_
              refine Run.seq ?_
              refine Run.quiet (by intro h; cases h) ?_
              refine QOps.st rfl rfl (Yv.move rfl).yl ?_
              refine QOps.st rfl rfl (Yv.move rfl).yl ?_
              refine QOps.st rfl rfl (Yv.lenS el45s rfl).yl ?_
              refine QOps.st rfl rfl (Yv.lss rfl rfl).yl ?_
              refine QOps.nil ?_
              refine Run.cond rfl (fun hc6 => ?_) (fun hc6 => ?_)
              · try replace hc6 := of_decide_eq_true hc6
                have hq2 := rs_two hrs1 strL_two _ (nthMem (show k < rs1.length by omega))
                have hsl := strL_len (ns := ya1) (day := ye1)
                refine Run.skip ?_
                refine Run.seq ?_
                refine Run.block ?_
                refine Run.quiet (by intro h; cases h) ?_
                refine QOps.st rfl rfl (Yv.move rfl).yl ?_
                refine QOps.st rfl rfl (Yv.move rfl).yl ?_
                refine' QOps.or [_, _, _, _, _, _, _, _, _, _, _, _, _, _, _, _, _, _] _ (.tmp 143) rfl rfl rfl rfl rfl rfl (fun hg3 => ?_) ?_
                rotate_left
                · try replace hg3 := of_decide_eq_false hg3
                  refine QOps.st rfl rfl (Yv.move rfl).yl ?_
                  refine QOps.st rfl rfl (Yv.move rfl).yl ?_
                  refine QOps.st rfl rfl (Yv.indexAddr k el45 rfl rfl rfl (Rd.row (i := 0) rfl) (by omega)).yl ?_
                  refine QOps.st rfl rfl (Yv.loadE (k := k) lay36 rfl InR.len (Rd.row (i := 0) rfl) (by first | omega | (simp; omega)) rfl).yl ?_
                  refine QOps.st rfl rfl (Yv.indexAddr 0 el36 rfl rfl rfl (Rd.innerOf (H1 := [_, _]) (rs := rs1) (k := k) (by omega) (fun x hx => by simp [hx])) (by omega)).yl ?_
                  refine QOps.st rfl rfl (Yv.loadE lay3 rfl intC_len (Rd.innerOf (H1 := [_, _]) (rs := rs1) (k := k) (by omega) (fun x hx => by simp [hx])) (by first | omega | (simp; omega)) rfl).yl ?_
                  refine QOps.st rfl rfl (Yv.move rfl).yl ?_
                  refine QOps.st rfl rfl (Yv.leq rfl rfl).yl ?_
                  refine QOps.st rfl rfl (Yv.move rfl).yl ?_
                  refine' QOps.and [_, _, _, _, _, _, _, _] _ (.tmp 142) rfl rfl rfl rfl rfl rfl (fun hg4 => ?_) ?_
                  rotate_left
                  · try replace hg4 := of_decide_eq_true hg4
                    refine QOps.st rfl rfl (Yv.move rfl).yl ?_
                    refine QOps.st rfl rfl (Yv.move rfl).yl ?_
                    refine QOps.st rfl rfl (Yv.move rfl).yl ?_
                    refine QOps.st rfl rfl (Yv.indexAddr k el45 rfl rfl rfl (Rd.row (i := 0) rfl) (by omega)).yl ?_
                    refine QOps.st rfl rfl (Yv.loadE (k := k) lay36 rfl InR.len (Rd.row (i := 0) rfl) (by first | omega | (simp; omega)) rfl).yl ?_
                    refine QOps.st rfl rfl (Yv.indexAddr 1 el36 rfl rfl rfl (Rd.innerOf (H1 := [_, _]) (rs := rs1) (k := k) (by omega) (fun x hx => by simp [hx])) (by omega)).yl ?_
                    refine QOps.st rfl rfl (Yv.loadE lay3 rfl intC_len (Rd.innerOf (H1 := [_, _]) (rs := rs1) (k := k) (by omega) (fun x hx => by simp [hx])) (by first | omega | (simp; omega)) rfl).yl ?_
                    refine QOps.st rfl rfl (Yv.leq rfl rfl).yl ?_
                    exact QOps.nil rfl
                  exact QOps.nil rfl
                refine QOps.st rfl rfl (Yv.assign rfl).yl ?_
                refine QOps.nil ?_
                refine Run.quiet (by intro h; cases h) ?_
                refine QOps.st rfl rfl (Yv.move rfl).yl ?_
                refine QOps.st rfl rfl (Yv.succN rfl rfl (by omega)).yl ?_
                refine QOps.st rfl rfl (Yv.assign rfl).yl ?_
                refine QOps.nil ?_
                refine ⟨k + 1, ?_, ?_, (SubE.cons rfl (SubE.cons rfl (SubE.cons rfl (SubE.cons rfl (SubE.cons rfl (SubE.cons rfl (SubE.cons rfl (SubE.cons rfl (SubE.cons rfl (SubE.cons rfl (SubE.cons rfl (SubE.cons rfl (SubE.cons (congrArg some (by rw [insTo_succ, nth_mapl (by omega)])) (SubE.cons rfl (SubE.nil _))))))))))))))), (List.Sublist.refl _)⟩
                · show k + 1 ≤ _; omega
                · first | omega | (dsimp only; omega)
              · try replace hc6 := of_decide_eq_false hc6
                refine Run.exit ?_
                refine Run.seq ?_
                refine Run.seq ?_
                refine Run.quiet (by intro h; cases h) ?_
                refine QOps.st rfl rfl (Yv.move rfl).yl ?_
                refine QOps.st rfl rfl (Yv.not rfl).yl ?_
                refine QOps.st rfl rfl (Yv.move rfl).yl ?_
                refine' QOps.or [_, _, _] _ (.tmp 150) rfl rfl rfl rfl rfl rfl (fun hg5 => ?_) ?_
                rotate_left
                · try replace hg5 := of_decide_eq_false hg5
                  refine QOps.st rfl rfl (Yv.move rfl).yl ?_
                  refine QOps.st rfl rfl (Yv.move rfl).yl ?_
                  refine QOps.st rfl rfl (Yv.neB bool4 rfl rfl).yl ?_
                  exact QOps.nil rfl
                refine QOps.st rfl rfl (Yv.move rfl).yl ?_
                refine' QOps.or [_, _, _, _, _, _, _, _, _, _] _ (.tmp 162) rfl rfl rfl rfl rfl rfl (fun hg6 => ?_) ?_
                rotate_left
                · try replace hg6 := of_decide_eq_false hg6
                  refine QOps.st rfl rfl (Yv.move rfl).yl ?_
                  refine QOps.st rfl rfl (Yv.move rfl).yl ?_
                  refine' QOps.and [_, _, _, _, _, _, _] _ (.tmp 161) rfl rfl rfl rfl rfl rfl (fun hg7 => ?_) ?_
                  rotate_left
                  · try replace hg7 := of_decide_eq_true hg7
                    refine QOps.st rfl rfl (Yv.move rfl).yl ?_
                    refine QOps.st rfl rfl (Yv.not rfl).yl ?_
                    refine QOps.st rfl rfl (Yv.move rfl).yl ?_
                    refine' QOps.or [_, _, _] _ (.tmp 160) rfl rfl rfl rfl rfl rfl (fun hg8 => ?_) ?_
                    rotate_left
                    · try replace hg8 := of_decide_eq_false hg8
                      refine QOps.st rfl rfl (Yv.move rfl).yl ?_
                      refine QOps.st rfl rfl (Yv.move rfl).yl ?_
                      refine QOps.st rfl rfl (Yv.neI rfl rfl).yl ?_
                      exact QOps.nil rfl
                    exact QOps.nil rfl
                  exact QOps.nil rfl
                refine QOps.nil ?_
                refine Run.cond rfl (fun hc7 => ?_) (fun hc7 => ?_)
                · exfalso
                  have hke : k = rs1.length := by omega
                  rw [hke, hin, hIo] at hc7
                  by_cases ho : openDay ya1 yb1 yd1 ye1 = true
                  · rw [next_open hA ho, ho] at hc7
                    simp [hAb.2.2.2.2.2.2] at hc7
                  · simp [ho, hAb.2.2.2.2.2.2] at hc7
                · try replace hc7 := of_decide_eq_false hc7
                  refine Run.skip ?_
                  refine Run.seq ?_
                  refine Run.quiet (by intro h; cases h) ?_
                  refine QOps.st rfl rfl (Yv.move rfl).yl ?_
                  refine QOps.st rfl rfl (Yv.assign rfl).yl ?_
                  refine QOps.nil ?_
                  refine Run.block ?_
                  refine Run.loop (S := Int) (fun s => match s with | e => ye1 ≤ e ∧ e ≤ 367) (fun s => match s with | e => [(0, .slice A xs.length c), (3, .slice Aq1 ya1.length cq1), (4, .int .i64 yb1), (5, .int .i64 yd1), (11, .int .i64 (nextOf ya1 yb1 yd1 ye1).1), (21, .int .i64 e)]) (fun s => match s with | e => [.row Aq1 cq1 59 7 ya1.length (ya1.flatMap Notice.enc)]) (fun s => match s with | e => (367 - e).toNat) ye1 ?_ (SubE.cons rfl (SubE.cons rfl (SubE.cons rfl (SubE.cons rfl (SubE.cons rfl (SubE.cons rfl (SubE.nil _))))))) (List.Sublist.cons _ (List.Sublist.cons_cons _ (List.nil_sublist _))) ?_
                  · exact ⟨by omega, by omega⟩
                  · rintro e ⟨he0, he1⟩
                    show Run _ _ _ _ _ [(0, .slice A xs.length c), (3, .slice Aq1 ya1.length cq1), (4, .int .i64 yb1), (5, .int .i64 yd1), (11, .int .i64 (nextOf ya1 yb1 yd1 ye1).1), (21, .int .i64 e)] [.row Aq1 cq1 59 7 ya1.length (ya1.flatMap Notice.enc)] _
                    refine Run.seq ?_
                    refine Run.seq ?_
                    refine Run.quiet (by intro h; cases h) ?_
                    refine QOps.st rfl rfl (Yv.move rfl).yl ?_
                    refine QOps.st rfl rfl (Yv.move rfl).yl ?_
                    refine QOps.st rfl rfl (Yv.lss rfl rfl).yl ?_
                    refine QOps.nil ?_
                    refine Run.cond rfl (fun hc8 => ?_) (fun hc8 => ?_)
                    · try replace hc8 := of_decide_eq_true hc8
                      refine Run.skip ?_
                      refine Run.seq ?_
                      refine Run.block ?_
                      refine Run.seq ?_
                      refine Run.quiet (by intro h; cases h) ?_
                      refine QOps.st rfl rfl (Yv.move rfl).yl ?_
                      refine QOps.st rfl rfl (Yv.move rfl).yl ?_
                      refine QOps.st rfl rfl (Yv.move rfl).yl ?_
                      refine QOps.st rfl rfl (Yv.move rfl).yl ?_
                      refine QOps.st rfl rfl (Yl.call callable22 (.cons rfl (.cons rfl (.cons rfl (.cons rfl (.nil))))) (fun w' hw' => IsOpen_spec ((Rd.row (i := 0) rfl) w' hw'))) ?_
                      refine QOps.st rfl rfl (Yv.move rfl).yl ?_
                      refine QOps.st rfl rfl (Yv.extract rfl rfl).yl ?_
                      refine QOps.st rfl rfl (Yv.extract rfl rfl).yl ?_
                      refine QOps.st rfl rfl (Yv.assign rfl).yl ?_
                      refine QOps.st rfl rfl (Yv.assign rfl).yl ?_
                      refine QOps.nil ?_
                      refine Run.seq ?_
                      refine Run.quiet (by intro h; cases h) ?_
                      refine QOps.st rfl rfl (Yv.move rfl).yl ?_
                      refine QOps.st rfl rfl (Yv.not rfl).yl ?_
                      refine QOps.st rfl rfl (Yv.move rfl).yl ?_
                      refine' QOps.or [_] _ (.tmp 181) rfl rfl rfl rfl rfl rfl (fun hg9 => ?_) ?_
                      rotate_left
                      · try replace hg9 := of_decide_eq_false hg9
                        refine QOps.st rfl rfl (Yv.move rfl).yl ?_
                        exact QOps.nil rfl
                      refine QOps.nil ?_
                      refine Run.cond rfl (fun hc9 => ?_) (fun hc9 => ?_)
                      · exfalso
                        rw [next_early hA he0 (by omega)] at hc9
                        simp at hc9
                      · try replace hc9 := of_decide_eq_false hc9
                        refine Run.skip ?_
                        refine Run.quiet (by intro h; cases h) ?_
                        refine QOps.st rfl rfl (Yv.move rfl).yl ?_
                        refine QOps.st rfl rfl (Yv.add rfl rfl (by omega)).yl ?_
                        refine QOps.st rfl rfl (Yv.assign rfl).yl ?_
                        refine QOps.nil ?_
                        refine ⟨e + 1, ?_, ?_, (SubE.cons rfl (SubE.cons rfl (SubE.cons rfl (SubE.cons rfl (SubE.cons rfl (SubE.cons rfl (SubE.nil _))))))), (List.Sublist.refl _)⟩
                        · exact ⟨by omega, by omega⟩
                        · first | omega | (dsimp only; omega)
                    · try replace hc8 := of_decide_eq_false hc8
                      refine Run.exit ?_
                      refine Run.seq ?_
                      refine Run.ops ?_
                      refine SOps.st rfl rfl (Yv.move rfl).yl ?_
                      refine SOps.one rfl (One.callER rfl callable41 (.cons rfl (.nil)) (fun w' hw' => DrawDepthOnWay_spec ((Rd.arg hs) w' hw')) ?_)
                      rintro ⟨ya2, yb2, yd2, ye2, yf2⟩ Aq2 cq2 hx2
                      try dsimp only at *
                      refine SOps.st rfl rfl (Yv.move rfl).yl ?_
                      refine SOps.st rfl rfl (Yv.extract rfl rfl).yl ?_
                      refine SOps.st rfl rfl (Yv.extract rfl rfl).yl ?_
                      refine SOps.st rfl rfl (Yv.extract rfl rfl).yl ?_
                      refine SOps.st rfl rfl (Yv.extract rfl rfl).yl ?_
                      refine SOps.st rfl rfl (Yv.extract rfl rfl).yl ?_
                      refine SOps.st rfl rfl (Yv.assign rfl).yl ?_
                      refine SOps.st rfl rfl (Yv.assign rfl).yl ?_
                      refine SOps.st rfl rfl (Yv.assign rfl).yl ?_
                      refine SOps.st rfl rfl (Yv.assign rfl).yl ?_
                      refine SOps.st rfl rfl (Yv.assign rfl).yl ?_
                      refine SOps.nil ?_
                      refine Run.seq ?_
                      refine Run.quiet (by intro h; cases h) ?_
                      refine QOps.st rfl rfl (Yv.move rfl).yl ?_
                      refine QOps.st rfl rfl (Yv.move rfl).yl ?_
                      refine QOps.st rfl rfl (Yv.move rfl).yl ?_
                      refine QOps.st rfl rfl (Yv.move rfl).yl ?_
                      refine QOps.st rfl rfl (Yv.move rfl).yl ?_
                      refine QOps.st rfl rfl (Yl.call callable18 (.cons rfl (.cons rfl (.cons rfl (.cons rfl (.cons rfl (.nil)))))) (fun w' hw' => DepthOnWay_spec ((Rd.row (i := 0) rfl) w' hw'))) ?_
                      refine QOps.st rfl rfl (Yv.move rfl).yl ?_
                      refine QOps.st rfl rfl (Yv.extract rfl rfl).yl ?_
                      refine QOps.st rfl rfl (Yv.extract rfl rfl).yl ?_
                      refine QOps.st rfl rfl (Yv.assign rfl).yl ?_
                      refine QOps.st rfl rfl (Yv.assign rfl).yl ?_
                      refine QOps.nil ?_
                      refine Run.seq ?_
                      refine Run.seq ?_
                      refine Run.quiet (by intro h; cases h) ?_
                      refine QOps.st rfl rfl (Yv.move rfl).yl ?_
                      refine QOps.st rfl rfl (Yv.move rfl).yl ?_
                      refine QOps.st rfl rfl (Yv.move rfl).yl ?_
                      refine QOps.st rfl rfl (Yv.move rfl).yl ?_
                      refine QOps.st rfl rfl (Yv.move rfl).yl ?_
                      refine QOps.st rfl rfl (Yl.call callable17 (.cons rfl (.cons rfl (.cons rfl (.cons rfl (.cons rfl (.nil)))))) (fun w' hw' => sDepthOnWay_spec ((Rd.row (i := 0) rfl) w' hw'))) ?_
                      refine QOps.st rfl rfl (Yv.move rfl).yl ?_
                      refine QOps.st rfl rfl (Yv.extract rfl rfl).yl ?_
                      refine QOps.st rfl rfl (Yv.extract rfl rfl).yl ?_
                      refine QOps.st rfl rfl (Yv.assign rfl).yl ?_
                      refine QOps.st rfl rfl (Yv.assign rfl).yl ?_
                      refine QOps.nil ?_
                      refine Run.seq ?_
                      refine Run.quiet (by intro h; cases h) ?_
                      refine QOps.st rfl rfl (Yv.move rfl).yl ?_
                      refine QOps.st rfl rfl (Yv.move rfl).yl ?_
                      refine QOps.st rfl rfl (Yv.neI rfl rfl).yl ?_
                      refine QOps.st rfl rfl (Yv.move rfl).yl ?_
                      refine' QOps.or [_, _, _] _ (.tmp 215) rfl rfl rfl rfl rfl rfl (fun hg10 => ?_) ?_
                      rotate_left
                      · try replace hg10 := of_decide_eq_false hg10
                        refine QOps.st rfl rfl (Yv.move rfl).yl ?_
                        refine QOps.st rfl rfl (Yv.move rfl).yl ?_
                        refine QOps.st rfl rfl (Yv.neB bool4 rfl rfl).yl ?_
                        exact QOps.nil rfl
                      refine QOps.st rfl rfl (Yv.move rfl).yl ?_
                      refine' QOps.or [_, _, _, _, _, _] _ (.tmp 223) rfl rfl rfl rfl rfl rfl (fun hg11 => ?_) ?_
                      rotate_left
                      · try replace hg11 := of_decide_eq_false hg11
                        refine QOps.st rfl rfl (Yv.move rfl).yl ?_
                        refine QOps.st rfl rfl (Yv.move rfl).yl ?_
                        refine' QOps.and [_, _, _] _ (.tmp 222) rfl rfl rfl rfl rfl rfl (fun hg12 => ?_) ?_
                        rotate_left
                        · try replace hg12 := of_decide_eq_true hg12
                          refine QOps.st rfl rfl (Yv.move rfl).yl ?_
                          refine QOps.st rfl rfl (Yv.move rfl).yl ?_
                          refine QOps.st rfl rfl (Yv.gtr rfl rfl).yl ?_
                          exact QOps.nil rfl
                        exact QOps.nil rfl
                      refine QOps.nil ?_
                      refine Run.cond rfl (fun hc10 => ?_) (fun hc10 => ?_)
                      · exfalso
                        simp at hc10
                        have h9 := depth_le hc10.1
                        omega
                      · try replace hc10 := of_decide_eq_false hc10
                        refine Run.skip ?_
                        refine Run.seq ?_
                        refine Run.ops ?_
                        refine SOps.st rfl rfl (Yv.move rfl).yl ?_
                        refine SOps.one rfl (One.callER rfl callable42 (.cons rfl (.nil)) (fun w' hw' => DrawSpeedAt_spec ((Rd.arg hs) w' hw')) ?_)
                        rintro ⟨ya3, yb3, yd3, ye3⟩ Aq3 cq3 hx3
                        try dsimp only at *
                        refine SOps.st rfl rfl (Yv.move rfl).yl ?_
                        refine SOps.st rfl rfl (Yv.extract rfl rfl).yl ?_
                        refine SOps.st rfl rfl (Yv.extract rfl rfl).yl ?_
                        refine SOps.st rfl rfl (Yv.extract rfl rfl).yl ?_
                        refine SOps.st rfl rfl (Yv.extract rfl rfl).yl ?_
                        refine SOps.st rfl rfl (Yv.assign rfl).yl ?_
                        refine SOps.st rfl rfl (Yv.assign rfl).yl ?_
                        refine SOps.st rfl rfl (Yv.assign rfl).yl ?_
                        refine SOps.st rfl rfl (Yv.assign rfl).yl ?_
                        refine SOps.nil ?_
                        refine Run.seq ?_
                        refine Run.quiet (by intro h; cases h) ?_
                        refine QOps.st rfl rfl (Yv.move rfl).yl ?_
                        refine QOps.st rfl rfl (Yv.move rfl).yl ?_
                        refine QOps.st rfl rfl (Yv.move rfl).yl ?_
                        refine QOps.st rfl rfl (Yv.move rfl).yl ?_
                        refine QOps.st rfl rfl (Yl.call callable20 (.cons rfl (.cons rfl (.cons rfl (.cons rfl (.nil))))) (fun w' hw' => SpeedAt_spec ((Rd.row (i := 0) rfl) w' hw'))) ?_
                        refine QOps.st rfl rfl (Yv.move rfl).yl ?_
                        refine QOps.st rfl rfl (Yv.extract rfl rfl).yl ?_
                        refine QOps.st rfl rfl (Yv.extract rfl rfl).yl ?_
                        refine QOps.st rfl rfl (Yv.assign rfl).yl ?_
                        refine QOps.st rfl rfl (Yv.assign rfl).yl ?_
                        refine QOps.nil ?_
                        refine Run.seq ?_
                        refine Run.seq ?_
                        refine Run.quiet (by intro h; cases h) ?_
                        refine QOps.st rfl rfl (Yv.move rfl).yl ?_
                        refine QOps.st rfl rfl (Yv.move rfl).yl ?_
                        refine QOps.st rfl rfl (Yv.move rfl).yl ?_
                        refine QOps.st rfl rfl (Yv.move rfl).yl ?_
                        refine QOps.st rfl rfl (Yl.call callable19 (.cons rfl (.cons rfl (.cons rfl (.cons rfl (.nil))))) (fun w' hw' => sSpeedAt_spec ((Rd.row (i := 0) rfl) w' hw'))) ?_
                        refine QOps.st rfl rfl (Yv.move rfl).yl ?_
                        refine QOps.st rfl rfl (Yv.extract rfl rfl).yl ?_
                        refine QOps.st rfl rfl (Yv.extract rfl rfl).yl ?_
                        refine QOps.st rfl rfl (Yv.assign rfl).yl ?_
                        refine QOps.st rfl rfl (Yv.assign rfl).yl ?_
                        refine QOps.nil ?_
                        refine Run.seq ?_
                        refine Run.quiet (by intro h; cases h) ?_
                        refine QOps.st rfl rfl (Yv.move rfl).yl ?_
                        refine QOps.st rfl rfl (Yv.move rfl).yl ?_
                        refine QOps.st rfl rfl (Yv.neI rfl rfl).yl ?_
                        refine QOps.st rfl rfl (Yv.move rfl).yl ?_
                        refine' QOps.or [_, _, _] _ (.tmp 254) rfl rfl rfl rfl rfl rfl (fun hg13 => ?_) ?_
                        rotate_left
                        · try replace hg13 := of_decide_eq_false hg13
                          refine QOps.st rfl rfl (Yv.move rfl).yl ?_
                          refine QOps.st rfl rfl (Yv.move rfl).yl ?_
                          refine QOps.st rfl rfl (Yv.neB bool4 rfl rfl).yl ?_
                          exact QOps.nil rfl
                        refine QOps.st rfl rfl (Yv.move rfl).yl ?_
                        refine' QOps.or [_, _, _, _, _, _] _ (.tmp 262) rfl rfl rfl rfl rfl rfl (fun hg14 => ?_) ?_
                        rotate_left
                        · try replace hg14 := of_decide_eq_false hg14
                          refine QOps.st rfl rfl (Yv.move rfl).yl ?_
                          refine QOps.st rfl rfl (Yv.move rfl).yl ?_
                          refine' QOps.and [_, _, _] _ (.tmp 261) rfl rfl rfl rfl rfl rfl (fun hg15 => ?_) ?_
                          rotate_left
                          · try replace hg15 := of_decide_eq_true hg15
                            refine QOps.st rfl rfl (Yv.move rfl).yl ?_
                            refine QOps.st rfl rfl (Yv.move rfl).yl ?_
                            refine QOps.st rfl rfl (Yv.gtr rfl rfl).yl ?_
                            exact QOps.nil rfl
                          exact QOps.nil rfl
                        refine QOps.nil ?_
                        refine Run.cond rfl (fun hc11 => ?_) (fun hc11 => ?_)
                        · exfalso
                          simp at hc11
                          have h9 := speed_le hc11.1
                          omega
                        · try replace hc11 := of_decide_eq_false hc11
                          refine Run.skip ?_
                          refine Run.seq ?_
                          refine Run.ops ?_
                          refine SOps.st rfl rfl (Yv.move rfl).yl ?_
                          refine SOps.one rfl (One.callER rfl callable43 (.cons rfl (.nil)) (fun w' hw' => DrawOpenStretches_spec ((Rd.arg hs) w' hw')) ?_)
                          rintro ⟨ya4, yb4⟩ Aq4 cq4 hx4
                          try dsimp only at *
                          refine SOps.st rfl rfl (Yv.move rfl).yl ?_
                          refine SOps.st rfl rfl (Yv.extract rfl rfl).yl ?_
                          refine SOps.st rfl rfl (Yv.extract rfl rfl).yl ?_
                          refine SOps.st rfl rfl (Yv.assign rfl).yl ?_
                          refine SOps.st rfl rfl (Yv.assign rfl).yl ?_
                          refine SOps.nil ?_
                          refine Run.seq ?_
                          refine Run.ops ?_
                          refine SOps.st rfl rfl (Yv.move rfl).yl ?_
                          refine SOps.st rfl rfl (Yv.move rfl).yl ?_
                          refine SOps.one rfl (One.callTabT (H1 := [_, _, _, _]) (rs0 := ([] : List (InR Int))) rfl callable35 (.cons rfl (.cons rfl (.nil))) (fun w' hw' => OpenStretches_spec ((Rd.row (i := 0) rfl) w' hw')) ?_)
                          rintro At2 ct2 rs2 hrs2
                          have hrl2 : rs2.length = (strL ya4 yb4).length := by rw [← hrs2]; simp
                          refine SOps.st rfl rfl (Yv.move rfl).yl ?_
                          refine SOps.st rfl rfl (Yv.extract rfl rfl).yl ?_
                          refine SOps.st rfl rfl (Yv.extract rfl rfl).yl ?_
                          refine SOps.st rfl rfl (Yv.assign rfl).yl ?_
                          refine SOps.st rfl rfl (Yv.assign rfl).yl ?_
                          refine SOps.nil ?_
                          refine Run.seq ?_
                          refine Run.ops ?_
                          refine SOps.st rfl rfl (Yv.move rfl).yl ?_
                          refine SOps.st rfl rfl (Yv.move rfl).yl ?_
                          refine SOps.one rfl (One.callTabT (H1 := [_, _, _, _, _]) (rs0 := (([] : List (InR Int)) ++ rs2)) rfl callable34 (.cons rfl (.cons rfl (.nil))) (fun w' hw' => sOpenStretches_spec ((Rd.row (i := 1) rfl) w' hw')) ?_)
                          rintro At3 ct3 rs3 hrs3
                          have hrl3 : rs3.length = (strL ya4 yb4).length := by rw [← hrs3]; simp
                          refine SOps.st rfl rfl (Yv.move rfl).yl ?_
                          refine SOps.st rfl rfl (Yv.extract rfl rfl).yl ?_
                          refine SOps.st rfl rfl (Yv.extract rfl rfl).yl ?_
                          refine SOps.st rfl rfl (Yv.assign rfl).yl ?_
                          refine SOps.st rfl rfl (Yv.assign rfl).yl ?_
                          refine SOps.nil ?_
                          refine Run.seq ?_
                          refine Run.quiet (by intro h; cases h) ?_
                          refine QOps.st rfl rfl (Yv.move rfl).yl ?_
                          refine QOps.st rfl rfl (Yv.move rfl).yl ?_
                          refine QOps.st rfl rfl (Yv.eqB bool4 rfl rfl).yl ?_
                          refine QOps.st rfl rfl (Yv.move rfl).yl ?_
                          refine' QOps.and [_, _, _] _ (.tmp 287) rfl rfl rfl rfl rfl rfl (fun hg16 => ?_) ?_
                          rotate_left
                          · try replace hg16 := of_decide_eq_true hg16
                            refine QOps.st rfl rfl (Yv.move rfl).yl ?_
                            refine QOps.st rfl rfl (Yv.move rfl).yl ?_
                            refine QOps.st rfl rfl (Yl.call callable44 (.cons rfl (.cons rfl (.nil))) (fun w' hw' => rTable_spec ((Rd.row (i := 1) rfl) w' hw') ((Rd.row (i := 0) rfl) w' hw') (rdin_tail (H1 := [_, _, _, _, _, _]) hw' (fun x hx => by simp [hx])) (rdin_tail (H1 := [_, _, _, _, _, _]) hw' (fun x hx => by simp [hx])) (by rw [hrs2, hrs3]))) ?_
                            exact QOps.nil rfl
                          refine QOps.st rfl rfl (Yv.assign rfl).yl ?_
                          refine QOps.nil ?_
                          refine Run.ret ?_
                          refine retQ.of (.inr rfl) rfl (.tmp rfl .nil) (fun w' hw' => ?_)
                          refine ⟨?_, hw'.bel.below⟩
                          refine retB_eq ?_
                          simp
          · try replace hc5 := of_decide_eq_false hc5
            have hin : insTo (rs1.map InR.l) yb1 yd1 rs1.length = openDay ya1 yb1 yd1 ye1 := by
                  have h9 := inside_open hA
                  rw [← hrs1, show min yb1 yd1 = yb1 by omega, show max yb1 yd1 = yd1 by omega] at h9
                  simpa using h9
            refine Run.skip ?_
            refine Run.seq ?_
            refine Run.seq ?_
            refine Run.quiet (by intro h; cases h) ?_
            refine QOps.st rfl rfl (Yv.assign rfl).yl ?_
            refine QOps.nil ?_
            refine Run.block ?_
            refine Run.loop (S := Nat) (fun s => match s with | k => k ≤ rs1.length) (fun s => match s with | k => [(0, .slice A xs.length c), (3, .slice Aq1 ya1.length cq1), (4, .int .i64 yb1), (5, .int .i64 yd1), (6, .int .i64 ye1), (7, .bool (isOpenOf ya1 yb1 yd1 ye1).1), (11, .int .i64 (nextOf ya1 yb1 yd1 ye1).1), (12, .bool (nextOf ya1 yb1 yd1 ye1).2), (15, .slice At1 rs1.length ct1), (16, .bool (endOk ya1 ye1)), (17, .int .i64 yb1), (18, .int .i64 yd1), (19, .bool (insTo (rs1.map InR.l) yb1 yd1 k)), (20, .int .i64 (k : Int))]) (fun s => match s with | k => (.row At1 ct1 36 1 rs1.length (rs1.flatMap InR.enc) :: .row Aq1 cq1 59 7 ya1.length (ya1.flatMap Notice.enc) :: (([] : List (InR Int)) ++ rs1).map (InR.row 3 1 intC))) (fun s => match s with | k => rs1.length - k) 0 ?_ (SubE.cons rfl (SubE.cons rfl (SubE.cons rfl (SubE.cons rfl (SubE.cons rfl (SubE.cons rfl (SubE.cons rfl (SubE.cons rfl (SubE.cons rfl (SubE.cons rfl (SubE.cons rfl (SubE.cons rfl (SubE.cons rfl (SubE.cons rfl (SubE.nil _))))))))))))))) (List.Sublist.refl _) ?_
            · exact Nat.zero_le _
            · rintro k hk
              show Run _ _ _ _ _ [(0, .slice A xs.length c), (3, .slice Aq1 ya1.length cq1), (4, .int .i64 yb1), (5, .int .i64 yd1), (6, .int .i64 ye1), (7, .bool (isOpenOf ya1 yb1 yd1 ye1).1), (11, .int .i64 (nextOf ya1 yb1 yd1 ye1).1), (12, .bool (nextOf ya1 yb1 yd1 ye1).2), (15, .slice At1 rs1.length ct1), (16, .bool (endOk ya1 ye1)), (17, .int .i64 yb1), (18, .int .i64 yd1), (19, .bool (insTo (rs1.map InR.l) yb1 yd1 k)), (20, .int .i64 (k : Int))] (.row At1 ct1 36 1 rs1.length (rs1.flatMap InR.enc) :: .row Aq1 cq1 59 7 ya1.length (ya1.flatMap Notice.enc) :: (([] : List (InR Int)) ++ rs1).map (InR.row 3 1 intC)) _
              refine Run.seq ?_
              refine Run.seq ?_
              refine Run.quiet (by intro h; cases h) ?_
              refine QOps.st rfl rfl (Yv.move rfl).yl ?_
              refine QOps.st rfl rfl (Yv.move rfl).yl ?_
              refine QOps.st rfl rfl (Yv.lenS el45s rfl).yl ?_
              refine QOps.st rfl rfl (Yv.lss rfl rfl).yl ?_
              refine QOps.nil ?_
              refine Run.cond rfl (fun hc12 => ?_) (fun hc12 => ?_)
              · try replace hc12 := of_decide_eq_true hc12
                have hq2 := rs_two hrs1 strL_two _ (nthMem (show k < rs1.length by omega))
                have hsl := strL_len (ns := ya1) (day := ye1)
                refine Run.skip ?_
                refine Run.seq ?_
                refine Run.block ?_
                refine Run.quiet (by intro h; cases h) ?_
                refine QOps.st rfl rfl (Yv.move rfl).yl ?_
                refine QOps.st rfl rfl (Yv.move rfl).yl ?_
                refine' QOps.or [_, _, _, _, _, _, _, _, _, _, _, _, _, _, _, _, _, _] _ (.tmp 143) rfl rfl rfl rfl rfl rfl (fun hg17 => ?_) ?_
                rotate_left
                · try replace hg17 := of_decide_eq_false hg17
                  refine QOps.st rfl rfl (Yv.move rfl).yl ?_
                  refine QOps.st rfl rfl (Yv.move rfl).yl ?_
                  refine QOps.st rfl rfl (Yv.indexAddr k el45 rfl rfl rfl (Rd.row (i := 0) rfl) (by omega)).yl ?_
                  refine QOps.st rfl rfl (Yv.loadE (k := k) lay36 rfl InR.len (Rd.row (i := 0) rfl) (by first | omega | (simp; omega)) rfl).yl ?_
                  refine QOps.st rfl rfl (Yv.indexAddr 0 el36 rfl rfl rfl (Rd.innerOf (H1 := [_, _]) (rs := rs1) (k := k) (by omega) (fun x hx => by simp [hx])) (by omega)).yl ?_
                  refine QOps.st rfl rfl (Yv.loadE lay3 rfl intC_len (Rd.innerOf (H1 := [_, _]) (rs := rs1) (k := k) (by omega) (fun x hx => by simp [hx])) (by first | omega | (simp; omega)) rfl).yl ?_
                  refine QOps.st rfl rfl (Yv.move rfl).yl ?_
                  refine QOps.st rfl rfl (Yv.leq rfl rfl).yl ?_
                  refine QOps.st rfl rfl (Yv.move rfl).yl ?_
                  refine' QOps.and [_, _, _, _, _, _, _, _] _ (.tmp 142) rfl rfl rfl rfl rfl rfl (fun hg18 => ?_) ?_
                  rotate_left
                  · try replace hg18 := of_decide_eq_true hg18
                    refine QOps.st rfl rfl (Yv.move rfl).yl ?_
                    refine QOps.st rfl rfl (Yv.move rfl).yl ?_
                    refine QOps.st rfl rfl (Yv.move rfl).yl ?_
                    refine QOps.st rfl rfl (Yv.indexAddr k el45 rfl rfl rfl (Rd.row (i := 0) rfl) (by omega)).yl ?_
                    refine QOps.st rfl rfl (Yv.loadE (k := k) lay36 rfl InR.len (Rd.row (i := 0) rfl) (by first | omega | (simp; omega)) rfl).yl ?_
                    refine QOps.st rfl rfl (Yv.indexAddr 1 el36 rfl rfl rfl (Rd.innerOf (H1 := [_, _]) (rs := rs1) (k := k) (by omega) (fun x hx => by simp [hx])) (by omega)).yl ?_
                    refine QOps.st rfl rfl (Yv.loadE lay3 rfl intC_len (Rd.innerOf (H1 := [_, _]) (rs := rs1) (k := k) (by omega) (fun x hx => by simp [hx])) (by first | omega | (simp; omega)) rfl).yl ?_
                    refine QOps.st rfl rfl (Yv.leq rfl rfl).yl ?_
                    exact QOps.nil rfl
                  exact QOps.nil rfl
                refine QOps.st rfl rfl (Yv.assign rfl).yl ?_
                refine QOps.nil ?_
                refine Run.quiet (by intro h; cases h) ?_
                refine QOps.st rfl rfl (Yv.move rfl).yl ?_
                refine QOps.st rfl rfl (Yv.succN rfl rfl (by omega)).yl ?_
                refine QOps.st rfl rfl (Yv.assign rfl).yl ?_
                refine QOps.nil ?_
                refine ⟨k + 1, ?_, ?_, (SubE.cons rfl (SubE.cons rfl (SubE.cons rfl (SubE.cons rfl (SubE.cons rfl (SubE.cons rfl (SubE.cons rfl (SubE.cons rfl (SubE.cons rfl (SubE.cons rfl (SubE.cons rfl (SubE.cons rfl (SubE.cons (congrArg some (by rw [insTo_succ, nth_mapl (by omega)])) (SubE.cons rfl (SubE.nil _))))))))))))))), (List.Sublist.refl _)⟩
                · show k + 1 ≤ _; omega
                · first | omega | (dsimp only; omega)
              · try replace hc12 := of_decide_eq_false hc12
                refine Run.exit ?_
                refine Run.seq ?_
                refine Run.seq ?_
                refine Run.quiet (by intro h; cases h) ?_
                refine QOps.st rfl rfl (Yv.move rfl).yl ?_
                refine QOps.st rfl rfl (Yv.not rfl).yl ?_
                refine QOps.st rfl rfl (Yv.move rfl).yl ?_
                refine' QOps.or [_, _, _] _ (.tmp 150) rfl rfl rfl rfl rfl rfl (fun hg19 => ?_) ?_
                rotate_left
                · try replace hg19 := of_decide_eq_false hg19
                  refine QOps.st rfl rfl (Yv.move rfl).yl ?_
                  refine QOps.st rfl rfl (Yv.move rfl).yl ?_
                  refine QOps.st rfl rfl (Yv.neB bool4 rfl rfl).yl ?_
                  exact QOps.nil rfl
                refine QOps.st rfl rfl (Yv.move rfl).yl ?_
                refine' QOps.or [_, _, _, _, _, _, _, _, _, _] _ (.tmp 162) rfl rfl rfl rfl rfl rfl (fun hg20 => ?_) ?_
                rotate_left
                · try replace hg20 := of_decide_eq_false hg20
                  refine QOps.st rfl rfl (Yv.move rfl).yl ?_
                  refine QOps.st rfl rfl (Yv.move rfl).yl ?_
                  refine' QOps.and [_, _, _, _, _, _, _] _ (.tmp 161) rfl rfl rfl rfl rfl rfl (fun hg21 => ?_) ?_
                  rotate_left
                  · try replace hg21 := of_decide_eq_true hg21
                    refine QOps.st rfl rfl (Yv.move rfl).yl ?_
                    refine QOps.st rfl rfl (Yv.not rfl).yl ?_
                    refine QOps.st rfl rfl (Yv.move rfl).yl ?_
                    refine' QOps.or [_, _, _] _ (.tmp 160) rfl rfl rfl rfl rfl rfl (fun hg22 => ?_) ?_
                    rotate_left
                    · try replace hg22 := of_decide_eq_false hg22
                      refine QOps.st rfl rfl (Yv.move rfl).yl ?_
                      refine QOps.st rfl rfl (Yv.move rfl).yl ?_
                      refine QOps.st rfl rfl (Yv.neI rfl rfl).yl ?_
                      exact QOps.nil rfl
                    exact QOps.nil rfl
                  exact QOps.nil rfl
                refine QOps.nil ?_
                refine Run.cond rfl (fun hc13 => ?_) (fun hc13 => ?_)
                · exfalso
                  have hke : k = rs1.length := by omega
                  rw [hke, hin, hIo] at hc13
                  by_cases ho : openDay ya1 yb1 yd1 ye1 = true
                  · rw [next_open hA ho, ho] at hc13
                    simp [hAb.2.2.2.2.2.2] at hc13
                  · simp [ho, hAb.2.2.2.2.2.2] at hc13
                · try replace hc13 := of_decide_eq_false hc13
                  refine Run.skip ?_
                  refine Run.seq ?_
                  refine Run.quiet (by intro h; cases h) ?_
                  refine QOps.st rfl rfl (Yv.move rfl).yl ?_
                  refine QOps.st rfl rfl (Yv.assign rfl).yl ?_
                  refine QOps.nil ?_
                  refine Run.block ?_
                  refine Run.loop (S := Int) (fun s => match s with | e => ye1 ≤ e ∧ e ≤ 367) (fun s => match s with | e => [(0, .slice A xs.length c), (3, .slice Aq1 ya1.length cq1), (4, .int .i64 yb1), (5, .int .i64 yd1), (11, .int .i64 (nextOf ya1 yb1 yd1 ye1).1), (21, .int .i64 e)]) (fun s => match s with | e => [.row Aq1 cq1 59 7 ya1.length (ya1.flatMap Notice.enc)]) (fun s => match s with | e => (367 - e).toNat) ye1 ?_ (SubE.cons rfl (SubE.cons rfl (SubE.cons rfl (SubE.cons rfl (SubE.cons rfl (SubE.cons rfl (SubE.nil _))))))) (List.Sublist.cons _ (List.Sublist.cons_cons _ (List.nil_sublist _))) ?_
                  · exact ⟨by omega, by omega⟩
                  · rintro e ⟨he0, he1⟩
                    show Run _ _ _ _ _ [(0, .slice A xs.length c), (3, .slice Aq1 ya1.length cq1), (4, .int .i64 yb1), (5, .int .i64 yd1), (11, .int .i64 (nextOf ya1 yb1 yd1 ye1).1), (21, .int .i64 e)] [.row Aq1 cq1 59 7 ya1.length (ya1.flatMap Notice.enc)] _
                    refine Run.seq ?_
                    refine Run.seq ?_
                    refine Run.quiet (by intro h; cases h) ?_
                    refine QOps.st rfl rfl (Yv.move rfl).yl ?_
                    refine QOps.st rfl rfl (Yv.move rfl).yl ?_
                    refine QOps.st rfl rfl (Yv.lss rfl rfl).yl ?_
                    refine QOps.nil ?_
                    refine Run.cond rfl (fun hc14 => ?_) (fun hc14 => ?_)
                    · try replace hc14 := of_decide_eq_true hc14
                      refine Run.skip ?_
                      refine Run.seq ?_
                      refine Run.block ?_
                      refine Run.seq ?_
                      refine Run.quiet (by intro h; cases h) ?_
                      refine QOps.st rfl rfl (Yv.move rfl).yl ?_
                      refine QOps.st rfl rfl (Yv.move rfl).yl ?_
                      refine QOps.st rfl rfl (Yv.move rfl).yl ?_
                      refine QOps.st rfl rfl (Yv.move rfl).yl ?_
                      refine QOps.st rfl rfl (Yl.call callable22 (.cons rfl (.cons rfl (.cons rfl (.cons rfl (.nil))))) (fun w' hw' => IsOpen_spec ((Rd.row (i := 0) rfl) w' hw'))) ?_
                      refine QOps.st rfl rfl (Yv.move rfl).yl ?_
                      refine QOps.st rfl rfl (Yv.extract rfl rfl).yl ?_
                      refine QOps.st rfl rfl (Yv.extract rfl rfl).yl ?_
                      refine QOps.st rfl rfl (Yv.assign rfl).yl ?_
                      refine QOps.st rfl rfl (Yv.assign rfl).yl ?_
                      refine QOps.nil ?_
                      refine Run.seq ?_
                      refine Run.quiet (by intro h; cases h) ?_
                      refine QOps.st rfl rfl (Yv.move rfl).yl ?_
                      refine QOps.st rfl rfl (Yv.not rfl).yl ?_
                      refine QOps.st rfl rfl (Yv.move rfl).yl ?_
                      refine' QOps.or [_] _ (.tmp 181) rfl rfl rfl rfl rfl rfl (fun hg23 => ?_) ?_
                      rotate_left
                      · try replace hg23 := of_decide_eq_false hg23
                        refine QOps.st rfl rfl (Yv.move rfl).yl ?_
                        exact QOps.nil rfl
                      refine QOps.nil ?_
                      refine Run.cond rfl (fun hc15 => ?_) (fun hc15 => ?_)
                      · exfalso
                        rw [next_early hA he0 (by omega)] at hc15
                        simp at hc15
                      · try replace hc15 := of_decide_eq_false hc15
                        refine Run.skip ?_
                        refine Run.quiet (by intro h; cases h) ?_
                        refine QOps.st rfl rfl (Yv.move rfl).yl ?_
                        refine QOps.st rfl rfl (Yv.add rfl rfl (by omega)).yl ?_
                        refine QOps.st rfl rfl (Yv.assign rfl).yl ?_
                        refine QOps.nil ?_
                        refine ⟨e + 1, ?_, ?_, (SubE.cons rfl (SubE.cons rfl (SubE.cons rfl (SubE.cons rfl (SubE.cons rfl (SubE.cons rfl (SubE.nil _))))))), (List.Sublist.refl _)⟩
                        · exact ⟨by omega, by omega⟩
                        · first | omega | (dsimp only; omega)
                    · try replace hc14 := of_decide_eq_false hc14
                      refine Run.exit ?_
                      refine Run.seq ?_
                      refine Run.ops ?_
                      refine SOps.st rfl rfl (Yv.move rfl).yl ?_
                      refine SOps.one rfl (One.callER rfl callable41 (.cons rfl (.nil)) (fun w' hw' => DrawDepthOnWay_spec ((Rd.arg hs) w' hw')) ?_)
                      rintro ⟨ya5, yb5, yd5, ye5, yf5⟩ Aq5 cq5 hx5
                      try dsimp only at *
                      refine SOps.st rfl rfl (Yv.move rfl).yl ?_
                      refine SOps.st rfl rfl (Yv.extract rfl rfl).yl ?_
                      refine SOps.st rfl rfl (Yv.extract rfl rfl).yl ?_
                      refine SOps.st rfl rfl (Yv.extract rfl rfl).yl ?_
                      refine SOps.st rfl rfl (Yv.extract rfl rfl).yl ?_
                      refine SOps.st rfl rfl (Yv.extract rfl rfl).yl ?_
                      refine SOps.st rfl rfl (Yv.assign rfl).yl ?_
                      refine SOps.st rfl rfl (Yv.assign rfl).yl ?_
                      refine SOps.st rfl rfl (Yv.assign rfl).yl ?_
                      refine SOps.st rfl rfl (Yv.assign rfl).yl ?_
                      refine SOps.st rfl rfl (Yv.assign rfl).yl ?_
                      refine SOps.nil ?_
                      refine Run.seq ?_
                      refine Run.quiet (by intro h; cases h) ?_
                      refine QOps.st rfl rfl (Yv.move rfl).yl ?_
                      refine QOps.st rfl rfl (Yv.move rfl).yl ?_
                      refine QOps.st rfl rfl (Yv.move rfl).yl ?_
                      refine QOps.st rfl rfl (Yv.move rfl).yl ?_
                      refine QOps.st rfl rfl (Yv.move rfl).yl ?_
                      refine QOps.st rfl rfl (Yl.call callable18 (.cons rfl (.cons rfl (.cons rfl (.cons rfl (.cons rfl (.nil)))))) (fun w' hw' => DepthOnWay_spec ((Rd.row (i := 0) rfl) w' hw'))) ?_
                      refine QOps.st rfl rfl (Yv.move rfl).yl ?_
                      refine QOps.st rfl rfl (Yv.extract rfl rfl).yl ?_
                      refine QOps.st rfl rfl (Yv.extract rfl rfl).yl ?_
                      refine QOps.st rfl rfl (Yv.assign rfl).yl ?_
                      refine QOps.st rfl rfl (Yv.assign rfl).yl ?_
                      refine QOps.nil ?_
                      refine Run.seq ?_
                      refine Run.seq ?_
                      refine Run.quiet (by intro h; cases h) ?_
                      refine QOps.st rfl rfl (Yv.move rfl).yl ?_
                      refine QOps.st rfl rfl (Yv.move rfl).yl ?_
                      refine QOps.st rfl rfl (Yv.move rfl).yl ?_
                      refine QOps.st rfl rfl (Yv.move rfl).yl ?_
                      refine QOps.st rfl rfl (Yv.move rfl).yl ?_
                      refine QOps.st rfl rfl (Yl.call callable17 (.cons rfl (.cons rfl (.cons rfl (.cons rfl (.cons rfl (.nil)))))) (fun w' hw' => sDepthOnWay_spec ((Rd.row (i := 0) rfl) w' hw'))) ?_
                      refine QOps.st rfl rfl (Yv.move rfl).yl ?_
                      refine QOps.st rfl rfl (Yv.extract rfl rfl).yl ?_
                      refine QOps.st rfl rfl (Yv.extract rfl rfl).yl ?_
                      refine QOps.st rfl rfl (Yv.assign rfl).yl ?_
                      refine QOps.st rfl rfl (Yv.assign rfl).yl ?_
                      refine QOps.nil ?_
                      refine Run.seq ?_
                      refine Run.quiet (by intro h; cases h) ?_
                      refine QOps.st rfl rfl (Yv.move rfl).yl ?_
                      refine QOps.st rfl rfl (Yv.move rfl).yl ?_
                      refine QOps.st rfl rfl (Yv.neI rfl rfl).yl ?_
                      refine QOps.st rfl rfl (Yv.move rfl).yl ?_
                      refine' QOps.or [_, _, _] _ (.tmp 215) rfl rfl rfl rfl rfl rfl (fun hg24 => ?_) ?_
                      rotate_left
                      · try replace hg24 := of_decide_eq_false hg24
                        refine QOps.st rfl rfl (Yv.move rfl).yl ?_
                        refine QOps.st rfl rfl (Yv.move rfl).yl ?_
                        refine QOps.st rfl rfl (Yv.neB bool4 rfl rfl).yl ?_
                        exact QOps.nil rfl
                      refine QOps.st rfl rfl (Yv.move rfl).yl ?_
                      refine' QOps.or [_, _, _, _, _, _] _ (.tmp 223) rfl rfl rfl rfl rfl rfl (fun hg25 => ?_) ?_
                      rotate_left
                      · try replace hg25 := of_decide_eq_false hg25
                        refine QOps.st rfl rfl (Yv.move rfl).yl ?_
                        refine QOps.st rfl rfl (Yv.move rfl).yl ?_
                        refine' QOps.and [_, _, _] _ (.tmp 222) rfl rfl rfl rfl rfl rfl (fun hg26 => ?_) ?_
                        rotate_left
                        · try replace hg26 := of_decide_eq_true hg26
                          refine QOps.st rfl rfl (Yv.move rfl).yl ?_
                          refine QOps.st rfl rfl (Yv.move rfl).yl ?_
                          refine QOps.st rfl rfl (Yv.gtr rfl rfl).yl ?_
                          exact QOps.nil rfl
                        exact QOps.nil rfl
                      refine QOps.nil ?_
                      refine Run.cond rfl (fun hc16 => ?_) (fun hc16 => ?_)
                      · exfalso
                        simp at hc16
                        have h9 := depth_le hc16.1
                        omega
                      · try replace hc16 := of_decide_eq_false hc16
                        refine Run.skip ?_
                        refine Run.seq ?_
                        refine Run.ops ?_
                        refine SOps.st rfl rfl (Yv.move rfl).yl ?_
                        refine SOps.one rfl (One.callER rfl callable42 (.cons rfl (.nil)) (fun w' hw' => DrawSpeedAt_spec ((Rd.arg hs) w' hw')) ?_)
                        rintro ⟨ya6, yb6, yd6, ye6⟩ Aq6 cq6 hx6
                        try dsimp only at *
                        refine SOps.st rfl rfl (Yv.move rfl).yl ?_
                        refine SOps.st rfl rfl (Yv.extract rfl rfl).yl ?_
                        refine SOps.st rfl rfl (Yv.extract rfl rfl).yl ?_
                        refine SOps.st rfl rfl (Yv.extract rfl rfl).yl ?_
                        refine SOps.st rfl rfl (Yv.extract rfl rfl).yl ?_
                        refine SOps.st rfl rfl (Yv.assign rfl).yl ?_
                        refine SOps.st rfl rfl (Yv.assign rfl).yl ?_
                        refine SOps.st rfl rfl (Yv.assign rfl).yl ?_
                        refine SOps.st rfl rfl (Yv.assign rfl).yl ?_
                        refine SOps.nil ?_
                        refine Run.seq ?_
                        refine Run.quiet (by intro h; cases h) ?_
                        refine QOps.st rfl rfl (Yv.move rfl).yl ?_
                        refine QOps.st rfl rfl (Yv.move rfl).yl ?_
                        refine QOps.st rfl rfl (Yv.move rfl).yl ?_
                        refine QOps.st rfl rfl (Yv.move rfl).yl ?_
                        refine QOps.st rfl rfl (Yl.call callable20 (.cons rfl (.cons rfl (.cons rfl (.cons rfl (.nil))))) (fun w' hw' => SpeedAt_spec ((Rd.row (i := 0) rfl) w' hw'))) ?_
                        refine QOps.st rfl rfl (Yv.move rfl).yl ?_
                        refine QOps.st rfl rfl (Yv.extract rfl rfl).yl ?_
                        refine QOps.st rfl rfl (Yv.extract rfl rfl).yl ?_
                        refine QOps.st rfl rfl (Yv.assign rfl).yl ?_
                        refine QOps.st rfl rfl (Yv.assign rfl).yl ?_
                        refine QOps.nil ?_
                        refine Run.seq ?_
                        refine Run.seq ?_
                        refine Run.quiet (by intro h; cases h) ?_
                        refine QOps.st rfl rfl (Yv.move rfl).yl ?_
                        refine QOps.st rfl rfl (Yv.move rfl).yl ?_
                        refine QOps.st rfl rfl (Yv.move rfl).yl ?_
                        refine QOps.st rfl rfl (Yv.move rfl).yl ?_
                        refine QOps.st rfl rfl (Yl.call callable19 (.cons rfl (.cons rfl (.cons rfl (.cons rfl (.nil))))) (fun w' hw' => sSpeedAt_spec ((Rd.row (i := 0) rfl) w' hw'))) ?_
                        refine QOps.st rfl rfl (Yv.move rfl).yl ?_
                        refine QOps.st rfl rfl (Yv.extract rfl rfl).yl ?_
                        refine QOps.st rfl rfl (Yv.extract rfl rfl).yl ?_
                        refine QOps.st rfl rfl (Yv.assign rfl).yl ?_
                        refine QOps.st rfl rfl (Yv.assign rfl).yl ?_
                        refine QOps.nil ?_
                        refine Run.seq ?_
                        refine Run.quiet (by intro h; cases h) ?_
                        refine QOps.st rfl rfl (Yv.move rfl).yl ?_
                        refine QOps.st rfl rfl (Yv.move rfl).yl ?_
                        refine QOps.st rfl rfl (Yv.neI rfl rfl).yl ?_
                        refine QOps.st rfl rfl (Yv.move rfl).yl ?_
                        refine' QOps.or [_, _, _] _ (.tmp 254) rfl rfl rfl rfl rfl rfl (fun hg27 => ?_) ?_
                        rotate_left
                        · try replace hg27 := of_decide_eq_false hg27
                          refine QOps.st rfl rfl (Yv.move rfl).yl ?_
                          refine QOps.st rfl rfl (Yv.move rfl).yl ?_
                          refine QOps.st rfl rfl (Yv.neB bool4 rfl rfl).yl ?_
                          exact QOps.nil rfl
                        refine QOps.st rfl rfl (Yv.move rfl).yl ?_
                        refine' QOps.or [_, _, _, _, _, _] _ (.tmp 262) rfl rfl rfl rfl rfl rfl (fun hg28 => ?_) ?_
                        rotate_left
                        · try replace hg28 := of_decide_eq_false hg28
                          refine QOps.st rfl rfl (Yv.move rfl).yl ?_
                          refine QOps.st rfl rfl (Yv.move rfl).yl ?_
                          refine' QOps.and [_, _, _] _ (.tmp 261) rfl rfl rfl rfl rfl rfl (fun hg29 => ?_) ?_
                          rotate_left
                          · try replace hg29 := of_decide_eq_true hg29
                            refine QOps.st rfl rfl (Yv.move rfl).yl ?_
                            refine QOps.st rfl rfl (Yv.move rfl).yl ?_
                            refine QOps.st rfl rfl (Yv.gtr rfl rfl).yl ?_
                            exact QOps.nil rfl
                          exact QOps.nil rfl
                        refine QOps.nil ?_
                        refine Run.cond rfl (fun hc17 => ?_) (fun hc17 => ?_)
                        · exfalso
                          simp at hc17
                          have h9 := speed_le hc17.1
                          omega
                        · try replace hc17 := of_decide_eq_false hc17
                          refine Run.skip ?_
                          refine Run.seq ?_
                          refine Run.ops ?_
                          refine SOps.st rfl rfl (Yv.move rfl).yl ?_
                          refine SOps.one rfl (One.callER rfl callable43 (.cons rfl (.nil)) (fun w' hw' => DrawOpenStretches_spec ((Rd.arg hs) w' hw')) ?_)
                          rintro ⟨ya7, yb7⟩ Aq7 cq7 hx7
                          try dsimp only at *
                          refine SOps.st rfl rfl (Yv.move rfl).yl ?_
                          refine SOps.st rfl rfl (Yv.extract rfl rfl).yl ?_
                          refine SOps.st rfl rfl (Yv.extract rfl rfl).yl ?_
                          refine SOps.st rfl rfl (Yv.assign rfl).yl ?_
                          refine SOps.st rfl rfl (Yv.assign rfl).yl ?_
                          refine SOps.nil ?_
                          refine Run.seq ?_
                          refine Run.ops ?_
                          refine SOps.st rfl rfl (Yv.move rfl).yl ?_
                          refine SOps.st rfl rfl (Yv.move rfl).yl ?_
                          refine SOps.one rfl (One.callTabT (H1 := [_, _, _, _]) (rs0 := ([] : List (InR Int))) rfl callable35 (.cons rfl (.cons rfl (.nil))) (fun w' hw' => OpenStretches_spec ((Rd.row (i := 0) rfl) w' hw')) ?_)
                          rintro At4 ct4 rs4 hrs4
                          have hrl4 : rs4.length = (strL ya7 yb7).length := by rw [← hrs4]; simp
                          refine SOps.st rfl rfl (Yv.move rfl).yl ?_
                          refine SOps.st rfl rfl (Yv.extract rfl rfl).yl ?_
                          refine SOps.st rfl rfl (Yv.extract rfl rfl).yl ?_
                          refine SOps.st rfl rfl (Yv.assign rfl).yl ?_
                          refine SOps.st rfl rfl (Yv.assign rfl).yl ?_
                          refine SOps.nil ?_
                          refine Run.seq ?_
                          refine Run.ops ?_
                          refine SOps.st rfl rfl (Yv.move rfl).yl ?_
                          refine SOps.st rfl rfl (Yv.move rfl).yl ?_
                          refine SOps.one rfl (One.callTabT (H1 := [_, _, _, _, _]) (rs0 := (([] : List (InR Int)) ++ rs4)) rfl callable34 (.cons rfl (.cons rfl (.nil))) (fun w' hw' => sOpenStretches_spec ((Rd.row (i := 1) rfl) w' hw')) ?_)
                          rintro At5 ct5 rs5 hrs5
                          have hrl5 : rs5.length = (strL ya7 yb7).length := by rw [← hrs5]; simp
                          refine SOps.st rfl rfl (Yv.move rfl).yl ?_
                          refine SOps.st rfl rfl (Yv.extract rfl rfl).yl ?_
                          refine SOps.st rfl rfl (Yv.extract rfl rfl).yl ?_
                          refine SOps.st rfl rfl (Yv.assign rfl).yl ?_
                          refine SOps.st rfl rfl (Yv.assign rfl).yl ?_
                          refine SOps.nil ?_
                          refine Run.seq ?_
                          refine Run.quiet (by intro h; cases h) ?_
                          refine QOps.st rfl rfl (Yv.move rfl).yl ?_
                          refine QOps.st rfl rfl (Yv.move rfl).yl ?_
                          refine QOps.st rfl rfl (Yv.eqB bool4 rfl rfl).yl ?_
                          refine QOps.st rfl rfl (Yv.move rfl).yl ?_
                          refine' QOps.and [_, _, _] _ (.tmp 287) rfl rfl rfl rfl rfl rfl (fun hg30 => ?_) ?_
                          rotate_left
                          · try replace hg30 := of_decide_eq_true hg30
                            refine QOps.st rfl rfl (Yv.move rfl).yl ?_
                            refine QOps.st rfl rfl (Yv.move rfl).yl ?_
                            refine QOps.st rfl rfl (Yl.call callable44 (.cons rfl (.cons rfl (.nil))) (fun w' hw' => rTable_spec ((Rd.row (i := 1) rfl) w' hw') ((Rd.row (i := 0) rfl) w' hw') (rdin_tail (H1 := [_, _, _, _, _, _]) hw' (fun x hx => by simp [hx])) (rdin_tail (H1 := [_, _, _, _, _, _]) hw' (fun x hx => by simp [hx])) (by rw [hrs4, hrs5]))) ?_
                            exact QOps.nil rfl
                          refine QOps.st rfl rfl (Yv.assign rfl).yl ?_
                          refine QOps.nil ?_
                          refine Run.ret ?_
                          refine retQ.of (.inr rfl) rfl (.tmp rfl .nil) (fun w' hw' => ?_)
                          refine ⟨?_, hw'.bel.below⟩
                          refine retB_eq ?_
                          simp
        · try replace hc4 := of_decide_eq_false hc4
          refine Run.skip ?_
          refine Run.seq ?_
          refine Run.ops ?_
          refine SOps.st rfl rfl (Yv.move rfl).yl ?_
          refine SOps.one rfl (One.callER rfl callable41 (.cons rfl (.nil)) (fun w' hw' => DrawDepthOnWay_spec ((Rd.arg hs) w' hw')) ?_)
          rintro ⟨ya8, yb8, yd8, ye8, yf8⟩ Aq8 cq8 hx8
          try dsimp only at *
          refine SOps.st rfl rfl (Yv.move rfl).yl ?_
          refine SOps.st rfl rfl (Yv.extract rfl rfl).yl ?_
          refine SOps.st rfl rfl (Yv.extract rfl rfl).yl ?_
          refine SOps.st rfl rfl (Yv.extract rfl rfl).yl ?_
          refine SOps.st rfl rfl (Yv.extract rfl rfl).yl ?_
          refine SOps.st rfl rfl (Yv.extract rfl rfl).yl ?_
          refine SOps.st rfl rfl (Yv.assign rfl).yl ?_
          refine SOps.st rfl rfl (Yv.assign rfl).yl ?_
          refine SOps.st rfl rfl (Yv.assign rfl).yl ?_
          refine SOps.st rfl rfl (Yv.assign rfl).yl ?_
          refine SOps.st rfl rfl (Yv.assign rfl).yl ?_
          refine SOps.nil ?_
          refine Run.seq ?_
          refine Run.quiet (by intro h; cases h) ?_
          refine QOps.st rfl rfl (Yv.move rfl).yl ?_
          refine QOps.st rfl rfl (Yv.move rfl).yl ?_
          refine QOps.st rfl rfl (Yv.move rfl).yl ?_
          refine QOps.st rfl rfl (Yv.move rfl).yl ?_
          refine QOps.st rfl rfl (Yv.move rfl).yl ?_
          refine QOps.st rfl rfl (Yl.call callable18 (.cons rfl (.cons rfl (.cons rfl (.cons rfl (.cons rfl (.nil)))))) (fun w' hw' => DepthOnWay_spec ((Rd.row (i := 0) rfl) w' hw'))) ?_
          refine QOps.st rfl rfl (Yv.move rfl).yl ?_
          refine QOps.st rfl rfl (Yv.extract rfl rfl).yl ?_
          refine QOps.st rfl rfl (Yv.extract rfl rfl).yl ?_
          refine QOps.st rfl rfl (Yv.assign rfl).yl ?_
          refine QOps.st rfl rfl (Yv.assign rfl).yl ?_
          refine QOps.nil ?_
          refine Run.seq ?_
          refine Run.seq ?_
          refine Run.quiet (by intro h; cases h) ?_
          refine QOps.st rfl rfl (Yv.move rfl).yl ?_
          refine QOps.st rfl rfl (Yv.move rfl).yl ?_
          refine QOps.st rfl rfl (Yv.move rfl).yl ?_
          refine QOps.st rfl rfl (Yv.move rfl).yl ?_
          refine QOps.st rfl rfl (Yv.move rfl).yl ?_
          refine QOps.st rfl rfl (Yl.call callable17 (.cons rfl (.cons rfl (.cons rfl (.cons rfl (.cons rfl (.nil)))))) (fun w' hw' => sDepthOnWay_spec ((Rd.row (i := 0) rfl) w' hw'))) ?_
          refine QOps.st rfl rfl (Yv.move rfl).yl ?_
          refine QOps.st rfl rfl (Yv.extract rfl rfl).yl ?_
          refine QOps.st rfl rfl (Yv.extract rfl rfl).yl ?_
          refine QOps.st rfl rfl (Yv.assign rfl).yl ?_
          refine QOps.st rfl rfl (Yv.assign rfl).yl ?_
          refine QOps.nil ?_
          refine Run.seq ?_
          refine Run.quiet (by intro h; cases h) ?_
          refine QOps.st rfl rfl (Yv.move rfl).yl ?_
          refine QOps.st rfl rfl (Yv.move rfl).yl ?_
          refine QOps.st rfl rfl (Yv.neI rfl rfl).yl ?_
          refine QOps.st rfl rfl (Yv.move rfl).yl ?_
          refine' QOps.or [_, _, _] _ (.tmp 215) rfl rfl rfl rfl rfl rfl (fun hg31 => ?_) ?_
          rotate_left
          · try replace hg31 := of_decide_eq_false hg31
            refine QOps.st rfl rfl (Yv.move rfl).yl ?_
            refine QOps.st rfl rfl (Yv.move rfl).yl ?_
            refine QOps.st rfl rfl (Yv.neB bool4 rfl rfl).yl ?_
            exact QOps.nil rfl
          refine QOps.st rfl rfl (Yv.move rfl).yl ?_
          refine' QOps.or [_, _, _, _, _, _] _ (.tmp 223) rfl rfl rfl rfl rfl rfl (fun hg32 => ?_) ?_
          rotate_left
          · try replace hg32 := of_decide_eq_false hg32
            refine QOps.st rfl rfl (Yv.move rfl).yl ?_
            refine QOps.st rfl rfl (Yv.move rfl).yl ?_
            refine' QOps.and [_, _, _] _ (.tmp 222) rfl rfl rfl rfl rfl rfl (fun hg33 => ?_) ?_
            rotate_left
            · try replace hg33 := of_decide_eq_true hg33
              refine QOps.st rfl rfl (Yv.move rfl).yl ?_
              refine QOps.st rfl rfl (Yv.move rfl).yl ?_
              refine QOps.st rfl rfl (Yv.gtr rfl rfl).yl ?_
              exact QOps.nil rfl
            exact QOps.nil rfl
          refine QOps.nil ?_
          refine Run.cond rfl (fun hc18 => ?_) (fun hc18 => ?_)
          · exfalso
            simp at hc18
            have h9 := depth_le hc18.1
            omega
          · try replace hc18 := of_decide_eq_false hc18
            refine Run.skip ?_
            refine Run.seq ?_
            refine Run.ops ?_
            refine SOps.st rfl rfl (Yv.move rfl).yl ?_
            refine SOps.one rfl (One.callER rfl callable42 (.cons rfl (.nil)) (fun w' hw' => DrawSpeedAt_spec ((Rd.arg hs) w' hw')) ?_)
            rintro ⟨ya9, yb9, yd9, ye9⟩ Aq9 cq9 hx9
            try dsimp only at *
            refine SOps.st rfl rfl (Yv.move rfl).yl ?_
            refine SOps.st rfl rfl (Yv.extract rfl rfl).yl ?_
            refine SOps.st rfl rfl (Yv.extract rfl rfl).yl ?_
            refine SOps.st rfl rfl (Yv.extract rfl rfl).yl ?_
            refine SOps.st rfl rfl (Yv.extract rfl rfl).yl ?_
            refine SOps.st rfl rfl (Yv.assign rfl).yl ?_
            refine SOps.st rfl rfl (Yv.assign rfl).yl ?_
            refine SOps.st rfl rfl (Yv.assign rfl).yl ?_
            refine SOps.st rfl rfl (Yv.assign rfl).yl ?_
            refine SOps.nil ?_
            refine Run.seq ?_
            refine Run.quiet (by intro h; cases h) ?_
            refine QOps.st rfl rfl (Yv.move rfl).yl ?_
            refine QOps.st rfl rfl (Yv.move rfl).yl ?_
            refine QOps.st rfl rfl (Yv.move rfl).yl ?_
            refine QOps.st rfl rfl (Yv.move rfl).yl ?_
            refine QOps.st rfl rfl (Yl.call callable20 (.cons rfl (.cons rfl (.cons rfl (.cons rfl (.nil))))) (fun w' hw' => SpeedAt_spec ((Rd.row (i := 0) rfl) w' hw'))) ?_
            refine QOps.st rfl rfl (Yv.move rfl).yl ?_
            refine QOps.st rfl rfl (Yv.extract rfl rfl).yl ?_
            refine QOps.st rfl rfl (Yv.extract rfl rfl).yl ?_
            refine QOps.st rfl rfl (Yv.assign rfl).yl ?_
            refine QOps.st rfl rfl (Yv.assign rfl).yl ?_
            refine QOps.nil ?_
            refine Run.seq ?_
            refine Run.seq ?_
            refine Run.quiet (by intro h; cases h) ?_
            refine QOps.st rfl rfl (Yv.move rfl).yl ?_
            refine QOps.st rfl rfl (Yv.move rfl).yl ?_
            refine QOps.st rfl rfl (Yv.move rfl).yl ?_
            refine QOps.st rfl rfl (Yv.move rfl).yl ?_
            refine QOps.st rfl rfl (Yl.call callable19 (.cons rfl (.cons rfl (.cons rfl (.cons rfl (.nil))))) (fun w' hw' => sSpeedAt_spec ((Rd.row (i := 0) rfl) w' hw'))) ?_
            refine QOps.st rfl rfl (Yv.move rfl).yl ?_
            refine QOps.st rfl rfl (Yv.extract rfl rfl).yl ?_
            refine QOps.st rfl rfl (Yv.extract rfl rfl).yl ?_
            refine QOps.st rfl rfl (Yv.assign rfl).yl ?_
            refine QOps.st rfl rfl (Yv.assign rfl).yl ?_
            refine QOps.nil ?_
            refine Run.seq ?_
            refine Run.quiet (by intro h; cases h) ?_
            refine QOps.st rfl rfl (Yv.move rfl).yl ?_
            refine QOps.st rfl rfl (Yv.move rfl).yl ?_
            refine QOps.st rfl rfl (Yv.neI rfl rfl).yl ?_
            refine QOps.st rfl rfl (Yv.move rfl).yl ?_
            refine' QOps.or [_, _, _] _ (.tmp 254) rfl rfl rfl rfl rfl rfl (fun hg34 => ?_) ?_
            rotate_left
            · try replace hg34 := of_decide_eq_false hg34
              refine QOps.st rfl rfl (Yv.move rfl).yl ?_
              refine QOps.st rfl rfl (Yv.move rfl).yl ?_
              refine QOps.st rfl rfl (Yv.neB bool4 rfl rfl).yl ?_
              exact QOps.nil rfl
            refine QOps.st rfl rfl (Yv.move rfl).yl ?_
            refine' QOps.or [_, _, _, _, _, _] _ (.tmp 262) rfl rfl rfl rfl rfl rfl (fun hg35 => ?_) ?_
            rotate_left
            · try replace hg35 := of_decide_eq_false hg35
              refine QOps.st rfl rfl (Yv.move rfl).yl ?_
              refine QOps.st rfl rfl (Yv.move rfl).yl ?_
              refine' QOps.and [_, _, _] _ (.tmp 261) rfl rfl rfl rfl rfl rfl (fun hg36 => ?_) ?_
              rotate_left
              · try replace hg36 := of_decide_eq_true hg36
                refine QOps.st rfl rfl (Yv.move rfl).yl ?_
                refine QOps.st rfl rfl (Yv.move rfl).yl ?_
                refine QOps.st rfl rfl (Yv.gtr rfl rfl).yl ?_
                exact QOps.nil rfl
              exact QOps.nil rfl
            refine QOps.nil ?_
            refine Run.cond rfl (fun hc19 => ?_) (fun hc19 => ?_)
            · exfalso
              simp at hc19
              have h9 := speed_le hc19.1
              omega
            · try replace hc19 := of_decide_eq_false hc19
              refine Run.skip ?_
              refine Run.seq ?_
              refine Run.ops ?_
              refine SOps.st rfl rfl (Yv.move rfl).yl ?_
              refine SOps.one rfl (One.callER rfl callable43 (.cons rfl (.nil)) (fun w' hw' => DrawOpenStretches_spec ((Rd.arg hs) w' hw')) ?_)
              rintro ⟨ya10, yb10⟩ Aq10 cq10 hx10
              try dsimp only at *
              refine SOps.st rfl rfl (Yv.move rfl).yl ?_
              refine SOps.st rfl rfl (Yv.extract rfl rfl).yl ?_
              refine SOps.st rfl rfl (Yv.extract rfl rfl).yl ?_
              refine SOps.st rfl rfl (Yv.assign rfl).yl ?_
              refine SOps.st rfl rfl (Yv.assign rfl).yl ?_
              refine SOps.nil ?_
              refine Run.seq ?_
              refine Run.ops ?_
              refine SOps.st rfl rfl (Yv.move rfl).yl ?_
              refine SOps.st rfl rfl (Yv.move rfl).yl ?_
              refine SOps.one rfl (One.callTabT (H1 := [_, _, _, _]) (rs0 := ([] : List (InR Int))) rfl callable35 (.cons rfl (.cons rfl (.nil))) (fun w' hw' => OpenStretches_spec ((Rd.row (i := 0) rfl) w' hw')) ?_)
              rintro At6 ct6 rs6 hrs6
              have hrl6 : rs6.length = (strL ya10 yb10).length := by rw [← hrs6]; simp
              refine SOps.st rfl rfl (Yv.move rfl).yl ?_
              refine SOps.st rfl rfl (Yv.extract rfl rfl).yl ?_
              refine SOps.st rfl rfl (Yv.extract rfl rfl).yl ?_
              refine SOps.st rfl rfl (Yv.assign rfl).yl ?_
              refine SOps.st rfl rfl (Yv.assign rfl).yl ?_
              refine SOps.nil ?_
              refine Run.seq ?_
              refine Run.ops ?_
              refine SOps.st rfl rfl (Yv.move rfl).yl ?_
              refine SOps.st rfl rfl (Yv.move rfl).yl ?_
              refine SOps.one rfl (One.callTabT (H1 := [_, _, _, _, _]) (rs0 := (([] : List (InR Int)) ++ rs6)) rfl callable34 (.cons rfl (.cons rfl (.nil))) (fun w' hw' => sOpenStretches_spec ((Rd.row (i := 1) rfl) w' hw')) ?_)
              rintro At7 ct7 rs7 hrs7
              have hrl7 : rs7.length = (strL ya10 yb10).length := by rw [← hrs7]; simp
              refine SOps.st rfl rfl (Yv.move rfl).yl ?_
              refine SOps.st rfl rfl (Yv.extract rfl rfl).yl ?_
              refine SOps.st rfl rfl (Yv.extract rfl rfl).yl ?_
              refine SOps.st rfl rfl (Yv.assign rfl).yl ?_
              refine SOps.st rfl rfl (Yv.assign rfl).yl ?_
              refine SOps.nil ?_
              refine Run.seq ?_
              refine Run.quiet (by intro h; cases h) ?_
              refine QOps.st rfl rfl (Yv.move rfl).yl ?_
              refine QOps.st rfl rfl (Yv.move rfl).yl ?_
              refine QOps.st rfl rfl (Yv.eqB bool4 rfl rfl).yl ?_
              refine QOps.st rfl rfl (Yv.move rfl).yl ?_
              refine' QOps.and [_, _, _] _ (.tmp 287) rfl rfl rfl rfl rfl rfl (fun hg37 => ?_) ?_
              rotate_left
              · try replace hg37 := of_decide_eq_true hg37
                refine QOps.st rfl rfl (Yv.move rfl).yl ?_
                refine QOps.st rfl rfl (Yv.move rfl).yl ?_
                refine QOps.st rfl rfl (Yl.call callable44 (.cons rfl (.cons rfl (.nil))) (fun w' hw' => rTable_spec ((Rd.row (i := 1) rfl) w' hw') ((Rd.row (i := 0) rfl) w' hw') (rdin_tail (H1 := [_, _, _, _, _, _]) hw' (fun x hx => by simp [hx])) (rdin_tail (H1 := [_, _, _, _, _, _]) hw' (fun x hx => by simp [hx])) (by rw [hrs6, hrs7]))) ?_
                exact QOps.nil rfl
              refine QOps.st rfl rfl (Yv.assign rfl).yl ?_
              refine QOps.nil ?_
              refine Run.ret ?_
              refine retQ.of (.inr rfl) rfl (.tmp rfl .nil) (fun w' hw' => ?_)
              refine ⟨?_, hw'.bel.below⟩
              refine retB_eq ?_
              simp
end Go.Proofs.Ytjabeiolgghfdaa
