/- Reports: the law of missing reports and of those that are kept. Conditions: none. -/
import Derived.Test.YtlpgcbkialcjcaaRep7
namespace Go.Proofs.Ytlpgcbkialcjcaa
open Go.RowKit
set_option maxRecDepth 100000
theorem FnFiles_spec {w : World} {A : Option Addr} {c : Nat} {xs : List UInt8} (hs : Sl w 1 A xs.length c (xs.flatMap byteC)) (_hb : 1 * xs.length ≤ 281474976710656) : Calls Try.prog 9 #[.slice A xs.length c] w (RetB w (.bool true)) := by
  refine calls_of_run (vs := [_]) (L := [(0, _)]) (n := 186) (F := []) (H := []) Try.func9 rfl rfl rfl rfl (HOk.start _) ?_
  refine Run.seq ?_
  refine Run.quiet (by intro h; cases h) ?_
  refine QOps.st rfl rfl (Yv.assign rfl).yl ?_
  refine QOps.nil ?_
  refine Run.seq ?_
  refine Run.seq ?_
  refine Run.quiet (by intro h; cases h) ?_
  refine QOps.st rfl rfl (Yv.move rfl).yl ?_
  refine QOps.st rfl rfl (Yl.call callable33 (.cons rfl (.nil)) (fun w' hw' => rBig_spec)) ?_
  refine QOps.nil ?_
  refine Run.cond rfl (fun hc1 => ?_) (fun hc1 => ?_)
  · try replace hc1 := of_decide_eq_true hc1
    refine Run.seq ?_
    refine Run.quiet (by intro h; cases h) ?_
    refine QOps.st rfl rfl (Yv.assign rfl).yl ?_
    refine QOps.nil ?_
    refine Run.ret ?_
    refine retQ.of (.inr rfl) rfl (.tmp rfl .nil) (fun w' hw' => ?_)
    refine ⟨?_, hw'.bel.below⟩
    exact rfl
  · try replace hc1 := of_decide_eq_false hc1
    refine Run.skip ?_
    refine Run.seq ?_
    refine Run.ops ?_
    refine SOps.st rfl rfl (Yv.move rfl).yl ?_
    refine SOps.one rfl (One.callER rfl callable34 (.cons rfl (.nil)) (fun w' hw' => DrawMissingReports_spec ((Rd.arg hs) w' hw')) ?_)
    rintro ⟨ya1, yb1⟩ Aq1 cq1 hx1
    dsimp only at *
    refine SOps.st rfl rfl (Yv.move rfl).yl ?_
    refine SOps.st rfl rfl (Yv.extract rfl rfl).yl ?_
    refine SOps.st rfl rfl (Yv.extract rfl rfl).yl ?_
    refine SOps.st rfl rfl (Yv.assign rfl).yl ?_
    refine SOps.st rfl rfl (Yv.assign rfl).yl ?_
    refine SOps.nil ?_
    refine Run.seq ?_
    refine Run.ops ?_
    refine SOps.st rfl rfl (Yv.move rfl).yl ?_
    refine SOps.st rfl rfl (Yv.move rfl).yl ?_
    refine SOps.one rfl (One.callRow rfl callable32 (.cons rfl (.cons rfl (.nil))) (fun w' hw' => MissingReports_spec ((Rd.row (i := 0) rfl) w' hw')) (fun A1 c1 => ?_))
    refine SOps.st rfl rfl (Yv.move rfl).yl ?_
    refine SOps.st rfl rfl (Yv.extract rfl rfl).yl ?_
    refine SOps.st rfl rfl (Yv.extract rfl rfl).yl ?_
    refine SOps.st rfl rfl (Yv.assign rfl).yl ?_
    refine SOps.st rfl rfl (Yv.assign rfl).yl ?_
    refine SOps.nil ?_
    refine Run.seq ?_
    refine Run.seq ?_
    refine Run.ops ?_
    refine SOps.st rfl rfl (Yv.move rfl).yl ?_
    refine SOps.st rfl rfl (Yv.move rfl).yl ?_
    refine SOps.one rfl (One.callRow rfl callable31 (.cons rfl (.cons rfl (.nil))) (fun w' hw' => sMissingReports_spec ((Rd.row (i := 1) rfl) w' hw')) (fun A2 c2 => ?_))
    refine SOps.st rfl rfl (Yv.move rfl).yl ?_
    refine SOps.st rfl rfl (Yv.extract rfl rfl).yl ?_
    refine SOps.st rfl rfl (Yv.extract rfl rfl).yl ?_
    refine SOps.st rfl rfl (Yv.assign rfl).yl ?_
    refine SOps.st rfl rfl (Yv.assign rfl).yl ?_
    refine SOps.nil ?_
    refine Run.seq ?_
    refine Run.quiet (by intro h; cases h) ?_
    refine QOps.st rfl rfl (Yv.move rfl).yl ?_
    refine QOps.st rfl rfl (Yv.move rfl).yl ?_
    refine QOps.st rfl rfl (Yv.neB bool4 rfl rfl).yl ?_
    refine QOps.st rfl rfl (Yv.move rfl).yl ?_
    refine' QOps.or [_, _, _, _] _ (.tmp 52) rfl rfl rfl rfl rfl rfl (fun hg1 => ?_) ?_
    rotate_left
    · try replace hg1 := of_decide_eq_false hg1
      refine QOps.st rfl rfl (Yv.move rfl).yl ?_
      refine QOps.st rfl rfl (Yv.move rfl).yl ?_
      refine QOps.st rfl rfl (Yl.call callable35 (.cons rfl (.cons rfl (.nil))) (fun w' hw' => rInts_spec ((Rd.row (i := 1) rfl) w' hw') ((Rd.row (i := 0) rfl) w' hw'))) ?_
      refine QOps.st rfl rfl (Yv.not rfl).yl ?_
      exact QOps.nil rfl
    refine QOps.nil ?_
    refine Run.cond rfl (fun hc2 => ?_) (fun hc2 => ?_)
    · exfalso
      first | (simp at hc2; done) | (simp at hc2; omega)
    · try replace hc2 := of_decide_eq_false hc2
      refine Run.skip ?_
      refine Run.seq ?_
      refine Run.ops ?_
      refine SOps.st rfl rfl (Yv.move rfl).yl ?_
      refine SOps.st rfl rfl (Yv.move rfl).yl ?_
      refine SOps.st rfl rfl (Yl.call callable20 (.cons rfl (.cons rfl (.nil))) (fun w' hw' => LastReport_spec ((Rd.row (i := 2) rfl) w' hw'))) ?_
      refine SOps.st rfl rfl (Yv.move rfl).yl ?_
      refine SOps.st rfl rfl (Yv.extract rfl rfl).yl ?_
      refine SOps.st rfl rfl (Yv.extract rfl rfl).yl ?_
      refine SOps.one rfl (One.alloc rfl zero25 (fun b1 => ?_))
      refine SOps.one rfl (One.store (i := 0) (off := 0) (vs := [_, _, _, _, _, _]) (cs' := [_, _, _, _, _, _]) (H' := [_, _, _, _]) lay25 rfl rfl rfl rfl rfl rfl rfl rfl rfl rfl ?_)
      refine SOps.st rfl rfl (Yv.assign rfl).yl ?_
      refine SOps.nil ?_
      refine Run.seq ?_
      refine Run.seq ?_
      refine Run.ops ?_
      refine SOps.st rfl rfl (Yv.move rfl).yl ?_
      refine SOps.st rfl rfl (Yv.move rfl).yl ?_
      refine SOps.st rfl rfl (Yl.call callable19 (.cons rfl (.cons rfl (.nil))) (fun w' hw' => sLastReport_spec ((Rd.row (i := 3) rfl) w' hw'))) ?_
      refine SOps.st rfl rfl (Yv.move rfl).yl ?_
      refine SOps.st rfl rfl (Yv.extract rfl rfl).yl ?_
      refine SOps.st rfl rfl (Yv.extract rfl rfl).yl ?_
      refine SOps.one rfl (One.alloc rfl zero25 (fun b2 => ?_))
      refine SOps.one rfl (One.store (i := 0) (off := 0) (vs := [_, _, _, _, _, _]) (cs' := [_, _, _, _, _, _]) (H' := [_, _, _, _, _]) lay25 rfl rfl rfl rfl rfl rfl rfl rfl rfl rfl ?_)
      refine SOps.st rfl rfl (Yv.assign rfl).yl ?_
      refine SOps.nil ?_
      refine Run.seq ?_
      refine Run.quiet (by intro h; cases h) ?_
      refine QOps.st rfl rfl (Yv.loadBs (i := 1) lay25 rfl rfl rfl rfl).yl ?_
      refine QOps.st rfl rfl (Yv.loadBs (i := 0) lay25 rfl rfl rfl rfl).yl ?_
      refine QOps.st rfl rfl (Yv.neS scal25 rfl rfl rfl rfl).yl ?_
      refine QOps.st rfl rfl (Yv.move rfl).yl ?_
      refine' QOps.or [_, _, _] _ (.tmp 72) rfl rfl rfl rfl rfl rfl (fun hg2 => ?_) ?_
      rotate_left
      · try replace hg2 := of_decide_eq_false hg2
        refine QOps.st rfl rfl (Yv.move rfl).yl ?_
        refine QOps.st rfl rfl (Yv.move rfl).yl ?_
        refine QOps.st rfl rfl (Yv.neB bool4 rfl rfl).yl ?_
        exact QOps.nil rfl
      refine QOps.nil ?_
      refine Run.cond rfl (fun hc3 => ?_) (fun hc3 => ?_)
      · exfalso
        simp [eqC] at hc3
      · try replace hc3 := of_decide_eq_false hc3
        refine Run.skip ?_
        refine Run.seq ?_
        refine Run.seq ?_
        refine Run.quiet (by intro h; cases h) ?_
        refine QOps.st rfl rfl (Yv.move rfl).yl ?_
        refine QOps.nil ?_
        refine Run.cond rfl (fun hc4 => ?_) (fun hc4 => ?_)
        · try replace hc4 := of_decide_eq_true hc4
          obtain ⟨hf, hM, hL50⟩ := missOf_shape hc4
          rw [hM]
          dsimp only
          refine Run.seq ?_
          refine Run.quiet (by intro h; cases h) ?_
          refine QOps.st rfl rfl (Yv.move rfl).yl ?_
          refine QOps.st rfl rfl (Yv.lenS el39s rfl).yl ?_
          refine QOps.st rfl rfl (Yv.assign rfl).yl ?_
          refine QOps.nil ?_
          refine Run.seq ?_
          refine Run.seq ?_
          refine Run.quiet (by intro h; cases h) ?_
          refine QOps.st rfl rfl (Yv.assign rfl).yl ?_
          refine QOps.nil ?_
          refine Run.block ?_
          refine Run.loop (S := Nat × Int) (fun s => match s with | (k, n) => k ≤ ya1.length ∧ n = ((missL ya1 yb1).length : Int) + cntTo ya1 yb1 k) (fun s => match s with | (k, n) => [(0, .slice A xs.length c), (3, .slice Aq1 ya1.length cq1), (4, .int .i64 yb1), (5, .slice A1 ((missL ya1 yb1).length) c1), (9, .pointer (some ⟨b1, 0, none⟩)), (10, .bool (lastOf ya1 yb1).2), (13, .int .i64 n), (14, .int .i64 (k : Int))]) (fun s => match s with | (k, n) => [.blk b1 25 (Report.enc (lastOf ya1 yb1).1), .row A1 c1 3 1 (missL ya1 yb1).length ((missL ya1 yb1).flatMap intC), .row Aq1 cq1 25 6 ya1.length (ya1.flatMap Report.enc)]) (fun s => match s with | (k, n) => ya1.length - k) (0, _) ?_ (SubE.cons rfl (SubE.cons rfl (SubE.cons rfl (SubE.cons rfl (SubE.cons rfl (SubE.cons rfl (SubE.cons rfl (SubE.cons rfl (SubE.nil _))))))))) (List.Sublist.cons _ (List.Sublist.cons_cons _ (List.Sublist.cons _ (List.Sublist.refl _)))) ?_
          · exact ⟨by omega, by simp [cntTo]⟩
          · rintro ⟨k, n⟩ ⟨hk, hn⟩
            show Run _ _ _ _ _ [(0, .slice A xs.length c), (3, .slice Aq1 ya1.length cq1), (4, .int .i64 yb1), (5, .slice A1 ((missL ya1 yb1).length) c1), (9, .pointer (some ⟨b1, 0, none⟩)), (10, .bool (lastOf ya1 yb1).2), (13, .int .i64 n), (14, .int .i64 (k : Int))] [.blk b1 25 (Report.enc (lastOf ya1 yb1).1), .row A1 c1 3 1 (missL ya1 yb1).length ((missL ya1 yb1).flatMap intC), .row Aq1 cq1 25 6 ya1.length (ya1.flatMap Report.enc)] _
            have hcr := cntTo_range (rs := ya1) (v := yb1) (k := k)
            refine Run.seq ?_
            refine Run.seq ?_
            refine Run.quiet (by intro h; cases h) ?_
            refine QOps.st rfl rfl (Yv.move rfl).yl ?_
            refine QOps.st rfl rfl (Yv.move rfl).yl ?_
            refine QOps.st rfl rfl (Yv.lenS el31s rfl).yl ?_
            refine QOps.st rfl rfl (Yv.lss rfl rfl).yl ?_
            refine QOps.nil ?_
            refine Run.cond rfl (fun hc5 => ?_) (fun hc5 => ?_)
            · try replace hc5 := of_decide_eq_true hc5
              refine Run.skip ?_
              refine Run.seq ?_
              refine Run.block ?_
              refine Run.seq ?_
              refine Run.quiet (by intro h; cases h) ?_
              refine QOps.st rfl rfl (Yv.move rfl).yl ?_
              refine QOps.st rfl rfl (Yv.move rfl).yl ?_
              refine QOps.st rfl rfl (Yv.indexAddr k el31 rfl rfl rfl (Rd.row (i := 2) rfl) (by omega)).yl ?_
              refine QOps.st rfl rfl (Yv.fieldAddr fld25_0 rfl).yl ?_
              refine QOps.st rfl rfl (Yv.loadF lay3 rfl Report.len (Rd.row (i := 2) rfl) (by first | omega | (simp; omega)) (by decide) rfl).yl ?_
              refine QOps.st rfl rfl (Yv.move rfl).yl ?_
              refine QOps.st rfl rfl (Yv.eqI rfl rfl).yl ?_
              refine QOps.nil ?_
              refine Run.cond rfl (fun hc6 => ?_) (fun hc6 => ?_)
              · try replace hc6 := of_decide_eq_true hc6
                refine Run.seq ?_
                refine Run.quiet (by intro h; cases h) ?_
                refine QOps.st rfl rfl (Yv.move rfl).yl ?_
                refine QOps.st rfl rfl (Yv.add rfl rfl (by omega)).yl ?_
                refine QOps.st rfl rfl (Yv.assign rfl).yl ?_
                refine QOps.nil ?_
                refine Run.seq ?_
                refine Run.quiet (by intro h; cases h) ?_
                refine QOps.st rfl rfl (Yv.move rfl).yl ?_
                refine QOps.st rfl rfl (Yv.move rfl).yl ?_
                refine QOps.st rfl rfl (Yv.move rfl).yl ?_
                refine QOps.st rfl rfl (Yv.indexAddr k el31 rfl rfl rfl (Rd.row (i := 2) rfl) (by omega)).yl ?_
                refine QOps.st rfl rfl (Yv.fieldAddr fld25_1 rfl).yl ?_
                refine QOps.st rfl rfl (Yv.loadF lay3 rfl Report.len (Rd.row (i := 2) rfl) (by first | omega | (simp; omega)) (by decide) rfl).yl ?_
                refine QOps.st rfl rfl (Yl.call callable36 (.cons rfl (.cons rfl (.nil))) (fun w' hw' => rHas_spec ((Rd.row (i := 1) rfl) w' hw'))) ?_
                refine QOps.nil ?_
                refine Run.cond rfl (fun hc7 => ?_) (fun hc7 => ?_)
                · exfalso
                  rw [miss_no (by omega) hc6] at hc7; cases hc7
                · try replace hc7 := of_decide_eq_false hc7
                  refine Run.skip ?_
                  refine Run.quiet (by intro h; cases h) ?_
                  refine QOps.st rfl rfl (Yv.move rfl).yl ?_
                  refine QOps.st rfl rfl (Yv.succN rfl rfl (by omega)).yl ?_
                  refine QOps.st rfl rfl (Yv.assign rfl).yl ?_
                  refine QOps.nil ?_
                  refine ⟨(k + 1, _), ?_, ?_, (SubE.cons rfl (SubE.cons rfl (SubE.cons rfl (SubE.cons rfl (SubE.cons rfl (SubE.cons rfl (SubE.cons rfl (SubE.cons rfl (SubE.nil _))))))))), (List.Sublist.refl _)⟩
                  · exact ⟨by omega, by rw [cntTo, if_pos hc6, hn]; omega⟩
                  · first | omega | (dsimp only; omega)
              · try replace hc6 := of_decide_eq_false hc6
                refine Run.skip ?_
                refine Run.quiet (by intro h; cases h) ?_
                refine QOps.st rfl rfl (Yv.move rfl).yl ?_
                refine QOps.st rfl rfl (Yv.succN rfl rfl (by omega)).yl ?_
                refine QOps.st rfl rfl (Yv.assign rfl).yl ?_
                refine QOps.nil ?_
                refine ⟨(k + 1, n), ?_, ?_, (SubE.cons rfl (SubE.cons rfl (SubE.cons rfl (SubE.cons rfl (SubE.cons rfl (SubE.cons rfl (SubE.cons rfl (SubE.cons rfl (SubE.nil _))))))))), (List.Sublist.refl _)⟩
                · exact ⟨by omega, by rw [cntTo, if_neg hc6, hn]⟩
                · first | omega | (dsimp only; omega)
            · try replace hc5 := of_decide_eq_false hc5
              refine Run.exit ?_
              refine Run.seq ?_
              refine Run.quiet (by intro h; cases h) ?_
              refine QOps.st rfl rfl (Yv.move rfl).yl ?_
              refine QOps.st rfl rfl (Yv.move rfl).yl ?_
              refine' QOps.and [_, _, _, _] _ (.tmp 104) rfl rfl rfl rfl rfl rfl (fun hg3 => ?_) ?_
              rotate_left
              · try replace hg3 := of_decide_eq_true hg3
                refine QOps.st rfl rfl (Yv.move rfl).yl ?_
                refine QOps.st rfl rfl (Yv.fieldAddr fld25_1 rfl).yl ?_
                refine QOps.st rfl rfl (Yv.loadB (i := 0) lay3 rfl rfl rfl rfl).yl ?_
                refine QOps.st rfl rfl (Yv.neI rfl rfl).yl ?_
                exact QOps.nil rfl
              refine QOps.st rfl rfl (Yv.move rfl).yl ?_
              refine' QOps.or [_, _, _, _, _, _] _ (.tmp 112) rfl rfl rfl rfl rfl rfl (fun hg4 => ?_) ?_
              rotate_left
              · try replace hg4 := of_decide_eq_false hg4
                refine QOps.st rfl rfl (Yv.move rfl).yl ?_
                refine QOps.st rfl rfl (Yv.not rfl).yl ?_
                refine QOps.st rfl rfl (Yv.move rfl).yl ?_
                refine' QOps.and [_, _] _ (.tmp 111) rfl rfl rfl rfl rfl rfl (fun hg5 => ?_) ?_
                rotate_left
                · try replace hg5 := of_decide_eq_true hg5
                  refine QOps.st rfl rfl (Yv.move rfl).yl ?_
                  refine QOps.st rfl rfl (Yv.neI rfl rfl).yl ?_
                  exact QOps.nil rfl
                exact QOps.nil rfl
              refine QOps.nil ?_
              refine Run.cond rfl (fun hc8 => ?_) (fun hc8 => ?_)
              · exfalso
                have hkk : k = ya1.length := (by omega); subst hkk; have ha := miss_all (v := yb1) hf; rw [last_num hf] at ha; cases h2 : (lastOf ya1 yb1).2 <;> simp [h2] at hc8 ha <;> omega
              · try replace hc8 := of_decide_eq_false hc8
                refine Run.skip ?_
                refine Run.seq ?_
                refine Run.ops ?_
                refine SOps.st rfl rfl (Yv.move rfl).yl ?_
                refine SOps.one rfl (One.callER rfl callable37 (.cons rfl (.nil)) (fun w' hw' => DrawForgetOld_spec ((Rd.arg hs) w' hw')) ?_)
                rintro ⟨ya2, yb2⟩ Aq2 cq2 hx2
                dsimp only at *
                refine SOps.st rfl rfl (Yv.move rfl).yl ?_
                refine SOps.st rfl rfl (Yv.extract rfl rfl).yl ?_
                refine SOps.st rfl rfl (Yv.extract rfl rfl).yl ?_
                refine SOps.st rfl rfl (Yv.assign rfl).yl ?_
                refine SOps.st rfl rfl (Yv.assign rfl).yl ?_
                refine SOps.nil ?_
                refine Run.seq ?_
                refine Run.ops ?_
                refine SOps.st rfl rfl (Yv.move rfl).yl ?_
                refine SOps.st rfl rfl (Yv.move rfl).yl ?_
                refine SOps.one rfl (One.callRow rfl callable29 (.cons rfl (.cons rfl (.nil))) (fun w' hw' => ForgetOld_spec ((Rd.row (i := 0) rfl) w' hw') (by omega)) (fun A3 c3 => ?_))
                refine SOps.st rfl rfl (Yv.move rfl).yl ?_
                refine SOps.st rfl rfl (Yv.extract rfl rfl).yl ?_
                refine SOps.st rfl rfl (Yv.extract rfl rfl).yl ?_
                refine SOps.st rfl rfl (Yv.assign rfl).yl ?_
                refine SOps.st rfl rfl (Yv.assign rfl).yl ?_
                refine SOps.nil ?_
                refine Run.seq ?_
                refine Run.seq ?_
                refine Run.ops ?_
                refine SOps.st rfl rfl (Yv.move rfl).yl ?_
                refine SOps.st rfl rfl (Yv.move rfl).yl ?_
                refine SOps.one rfl (One.callRow rfl callable28 (.cons rfl (.cons rfl (.nil))) (fun w' hw' => sForgetOld_spec ((Rd.row (i := 1) rfl) w' hw') (by omega)) (fun A4 c4 => ?_))
                refine SOps.st rfl rfl (Yv.move rfl).yl ?_
                refine SOps.st rfl rfl (Yv.extract rfl rfl).yl ?_
                refine SOps.st rfl rfl (Yv.extract rfl rfl).yl ?_
                refine SOps.st rfl rfl (Yv.assign rfl).yl ?_
                refine SOps.st rfl rfl (Yv.assign rfl).yl ?_
                refine SOps.nil ?_
                refine Run.seq ?_
                refine Run.quiet (by intro h; cases h) ?_
                refine QOps.st rfl rfl (Yv.move rfl).yl ?_
                refine QOps.st rfl rfl (Yv.move rfl).yl ?_
                refine QOps.st rfl rfl (Yv.neB bool4 rfl rfl).yl ?_
                refine QOps.st rfl rfl (Yv.move rfl).yl ?_
                refine' QOps.or [_, _, _, _] _ (.tmp 138) rfl rfl rfl rfl rfl rfl (fun hg6 => ?_) ?_
                rotate_left
                · try replace hg6 := of_decide_eq_false hg6
                  refine QOps.st rfl rfl (Yv.move rfl).yl ?_
                  refine QOps.st rfl rfl (Yv.move rfl).yl ?_
                  refine QOps.st rfl rfl (Yl.call callable38 (.cons rfl (.cons rfl (.nil))) (fun w' hw' => rFiles_spec ((Rd.row (i := 1) rfl) w' hw') ((Rd.row (i := 0) rfl) w' hw'))) ?_
                  refine QOps.st rfl rfl (Yv.not rfl).yl ?_
                  exact QOps.nil rfl
                refine QOps.nil ?_
                refine Run.cond rfl (fun hc9 => ?_) (fun hc9 => ?_)
                · exfalso
                  first | (simp at hc9; done) | (simp at hc9; omega)
                · try replace hc9 := of_decide_eq_false hc9
                  refine Run.skip ?_
                  refine Run.seq ?_
                  refine Run.seq ?_
                  refine Run.quiet (by intro h; cases h) ?_
                  refine QOps.st rfl rfl (Yv.assign rfl).yl ?_
                  refine QOps.nil ?_
                  refine Run.block ?_
                  refine Run.loop (S := Nat) (fun s => match s with | k => k ≤ ya2.length) (fun s => match s with | k => [(15, .slice Aq2 ya2.length cq2), (17, .slice A3 ((keptOf ya2 yb2).length) c3), (18, .bool (keepOk ya2 yb2)), (21, .int .i64 (k : Int))]) (fun s => match s with | k => [.row A3 c3 25 6 (keptOf ya2 yb2).length ((keptOf ya2 yb2).flatMap Report.enc), .row Aq2 cq2 25 6 ya2.length (ya2.flatMap Report.enc)]) (fun s => match s with | k => ya2.length - k) 0 ?_ (SubE.cons rfl (SubE.cons rfl (SubE.cons rfl (SubE.cons rfl (SubE.nil _))))) (List.Sublist.cons _ (List.Sublist.cons_cons _ (List.Sublist.cons_cons _ (List.nil_sublist _)))) ?_
                  · exact Nat.zero_le _
                  · rintro k hk
                    show Run _ _ _ _ _ [(15, .slice Aq2 ya2.length cq2), (17, .slice A3 ((keptOf ya2 yb2).length) c3), (18, .bool (keepOk ya2 yb2)), (21, .int .i64 (k : Int))] [.row A3 c3 25 6 (keptOf ya2 yb2).length ((keptOf ya2 yb2).flatMap Report.enc), .row Aq2 cq2 25 6 ya2.length (ya2.flatMap Report.enc)] _
                    refine Run.seq ?_
                    refine Run.seq ?_
                    refine Run.quiet (by intro h; cases h) ?_
                    refine QOps.st rfl rfl (Yv.move rfl).yl ?_
                    refine QOps.st rfl rfl (Yv.move rfl).yl ?_
                    refine QOps.st rfl rfl (Yv.lenS el31s rfl).yl ?_
                    refine QOps.st rfl rfl (Yv.lss rfl rfl).yl ?_
                    refine QOps.st rfl rfl (Yv.move rfl).yl ?_
                    refine' QOps.and [_] _ (.tmp 145) rfl rfl rfl rfl rfl rfl (fun hg7 => ?_) ?_
                    rotate_left
                    · try replace hg7 := of_decide_eq_true hg7
                      refine QOps.st rfl rfl (Yv.move rfl).yl ?_
                      exact QOps.nil rfl
                    refine QOps.nil ?_
                    refine Run.cond rfl (fun hc10 => ?_) (fun hc10 => ?_)
                    · try replace hc10 := of_decide_eq_true hc10
                      rw [Bool.and_eq_true, decide_eq_true_eq] at hc10
                      refine Run.skip ?_
                      refine Run.seq ?_
                      refine Run.block ?_
                      refine Run.seq ?_
                      refine Run.ops ?_
                      refine SOps.st rfl rfl (Yv.move rfl).yl ?_
                      refine SOps.st rfl rfl (Yv.move rfl).yl ?_
                      refine SOps.st rfl rfl (Yv.move rfl).yl ?_
                      refine SOps.st rfl rfl (Yv.indexAddr k el31 rfl rfl rfl (Rd.row (i := 1) rfl) (by omega)).yl ?_
                      refine SOps.st rfl rfl (Yv.fieldAddr fld25_0 rfl).yl ?_
                      refine SOps.st rfl rfl (Yv.loadF lay3 rfl Report.len (Rd.row (i := 1) rfl) (by first | omega | (simp; omega)) (by decide) rfl).yl ?_
                      refine SOps.st rfl rfl (Yl.call callable20 (.cons rfl (.cons rfl (.nil))) (fun w' hw' => LastReport_spec ((Rd.row (i := 1) rfl) w' hw'))) ?_
                      refine SOps.st rfl rfl (Yv.move rfl).yl ?_
                      refine SOps.st rfl rfl (Yv.extract rfl rfl).yl ?_
                      refine SOps.st rfl rfl (Yv.extract rfl rfl).yl ?_
                      refine SOps.one rfl (One.alloc rfl zero25 (fun b3 => ?_))
                      refine SOps.one rfl (One.store (i := 0) (off := 0) (vs := [_, _, _, _, _, _]) (cs' := [_, _, _, _, _, _]) (H' := [_, _, _]) lay25 rfl rfl rfl rfl rfl rfl rfl rfl rfl rfl ?_)
                      refine SOps.st rfl rfl (Yv.assign rfl).yl ?_
                      refine SOps.nil ?_
                      refine Run.seq ?_
                      refine Run.ops ?_
                      refine SOps.st rfl rfl (Yv.move rfl).yl ?_
                      refine SOps.st rfl rfl (Yv.move rfl).yl ?_
                      refine SOps.st rfl rfl (Yv.move rfl).yl ?_
                      refine SOps.st rfl rfl (Yv.indexAddr k el31 rfl rfl rfl (Rd.row (i := 2) rfl) (by omega)).yl ?_
                      refine SOps.st rfl rfl (Yv.fieldAddr fld25_0 rfl).yl ?_
                      refine SOps.st rfl rfl (Yv.loadF lay3 rfl Report.len (Rd.row (i := 2) rfl) (by first | omega | (simp; omega)) (by decide) rfl).yl ?_
                      refine SOps.st rfl rfl (Yl.call callable20 (.cons rfl (.cons rfl (.nil))) (fun w' hw' => LastReport_spec ((Rd.row (i := 1) rfl) w' hw'))) ?_
                      refine SOps.st rfl rfl (Yv.move rfl).yl ?_
                      refine SOps.st rfl rfl (Yv.extract rfl rfl).yl ?_
                      refine SOps.st rfl rfl (Yv.extract rfl rfl).yl ?_
                      refine SOps.one rfl (One.alloc rfl zero25 (fun b4 => ?_))
                      refine SOps.one rfl (One.store (i := 0) (off := 0) (vs := [_, _, _, _, _, _]) (cs' := [_, _, _, _, _, _]) (H' := [_, _, _, _]) lay25 rfl rfl rfl rfl rfl rfl rfl rfl rfl rfl ?_)
                      refine SOps.st rfl rfl (Yv.assign rfl).yl ?_
                      refine SOps.nil ?_
                      refine Run.seq ?_
                      refine Run.quiet (by intro h; cases h) ?_
                      refine QOps.st rfl rfl (Yv.move rfl).yl ?_
                      refine QOps.st rfl rfl (Yv.not rfl).yl ?_
                      refine QOps.st rfl rfl (Yv.move rfl).yl ?_
                      refine' QOps.or [_, _] _ (.tmp 173) rfl rfl rfl rfl rfl rfl (fun hg8 => ?_) ?_
                      rotate_left
                      · try replace hg8 := of_decide_eq_false hg8
                        refine QOps.st rfl rfl (Yv.move rfl).yl ?_
                        refine QOps.st rfl rfl (Yv.not rfl).yl ?_
                        exact QOps.nil rfl
                      refine QOps.st rfl rfl (Yv.move rfl).yl ?_
                      refine' QOps.or [_, _, _] _ (.tmp 178) rfl rfl rfl rfl rfl rfl (fun hg9 => ?_) ?_
                      rotate_left
                      · try replace hg9 := of_decide_eq_false hg9
                        refine QOps.st rfl rfl (Yv.loadBs (i := 1) lay25 rfl rfl rfl rfl).yl ?_
                        refine QOps.st rfl rfl (Yv.loadBs (i := 0) lay25 rfl rfl rfl rfl).yl ?_
                        refine QOps.st rfl rfl (Yv.neS scal25 rfl rfl rfl rfl).yl ?_
                        exact QOps.nil rfl
                      refine QOps.nil ?_
                      refine Run.cond rfl (fun hc11 => ?_) (fun hc11 => ?_)
                      · exfalso
                        obtain ⟨hfk, r, e1, e2⟩ := keep_last (m := yb2) hc10.2 (show k < ya2.length by omega); simp [e1, e2, eqC] at hc11
                      · try replace hc11 := of_decide_eq_false hc11
                        refine Run.skip ?_
                        refine Run.quiet (by intro h; cases h) ?_
                        refine QOps.st rfl rfl (Yv.move rfl).yl ?_
                        refine QOps.st rfl rfl (Yv.succN rfl rfl (by omega)).yl ?_
                        refine QOps.st rfl rfl (Yv.assign rfl).yl ?_
                        refine QOps.nil ?_
                        refine ⟨k + 1, ?_, ?_, (SubE.cons rfl (SubE.cons rfl (SubE.cons rfl (SubE.cons rfl (SubE.nil _))))), (List.Sublist.cons _ (List.Sublist.cons _ (List.Sublist.refl _)))⟩
                        · show k + 1 ≤ _; omega
                        · (dsimp only; omega)
                    · try replace hc10 := of_decide_eq_false hc10
                      refine Run.exit ?_
                      refine Run.seq ?_
                      refine Run.quiet (by intro h; cases h) ?_
                      refine QOps.st rfl rfl (Yv.move rfl).yl ?_
                      refine QOps.st rfl rfl (Yv.not rfl).yl ?_
                      refine QOps.st rfl rfl (Yv.move rfl).yl ?_
                      refine' QOps.or [_, _] _ (.tmp 184) rfl rfl rfl rfl rfl rfl (fun hg10 => ?_) ?_
                      rotate_left
                      · try replace hg10 := of_decide_eq_false hg10
                        refine QOps.st rfl rfl (Yv.move rfl).yl ?_
                        refine QOps.st rfl rfl (Yl.call callable17 (.cons rfl (.nil)) (fun w' hw' => IsFile_spec ((Rd.row (i := 0) rfl) w' hw'))) ?_
                        exact QOps.nil rfl
                      refine QOps.st rfl rfl (Yv.assign rfl).yl ?_
                      refine QOps.nil ?_
                      refine Run.ret ?_
                      refine retQ.of (.inr rfl) rfl (.tmp rfl .nil) (fun w' hw' => ?_)
                      refine ⟨?_, hw'.bel.below⟩
                      refine retB_eq ?_
                      cases h : keepOk ya2 yb2
                      · rfl
                      · rw [keep_file h]; rfl
        · try replace hc4 := of_decide_eq_false hc4
          refine Run.skip ?_
          refine Run.seq ?_
          refine Run.ops ?_
          refine SOps.st rfl rfl (Yv.move rfl).yl ?_
          refine SOps.one rfl (One.callER rfl callable37 (.cons rfl (.nil)) (fun w' hw' => DrawForgetOld_spec ((Rd.arg hs) w' hw')) ?_)
          rintro ⟨ya3, yb3⟩ Aq3 cq3 hx3
          dsimp only at *
          refine SOps.st rfl rfl (Yv.move rfl).yl ?_
          refine SOps.st rfl rfl (Yv.extract rfl rfl).yl ?_
          refine SOps.st rfl rfl (Yv.extract rfl rfl).yl ?_
          refine SOps.st rfl rfl (Yv.assign rfl).yl ?_
          refine SOps.st rfl rfl (Yv.assign rfl).yl ?_
          refine SOps.nil ?_
          refine Run.seq ?_
          refine Run.ops ?_
          refine SOps.st rfl rfl (Yv.move rfl).yl ?_
          refine SOps.st rfl rfl (Yv.move rfl).yl ?_
          refine SOps.one rfl (One.callRow rfl callable29 (.cons rfl (.cons rfl (.nil))) (fun w' hw' => ForgetOld_spec ((Rd.row (i := 0) rfl) w' hw') (by omega)) (fun A5 c5 => ?_))
          refine SOps.st rfl rfl (Yv.move rfl).yl ?_
          refine SOps.st rfl rfl (Yv.extract rfl rfl).yl ?_
          refine SOps.st rfl rfl (Yv.extract rfl rfl).yl ?_
          refine SOps.st rfl rfl (Yv.assign rfl).yl ?_
          refine SOps.st rfl rfl (Yv.assign rfl).yl ?_
          refine SOps.nil ?_
          refine Run.seq ?_
          refine Run.seq ?_
          refine Run.ops ?_
          refine SOps.st rfl rfl (Yv.move rfl).yl ?_
          refine SOps.st rfl rfl (Yv.move rfl).yl ?_
          refine SOps.one rfl (One.callRow rfl callable28 (.cons rfl (.cons rfl (.nil))) (fun w' hw' => sForgetOld_spec ((Rd.row (i := 1) rfl) w' hw') (by omega)) (fun A6 c6 => ?_))
          refine SOps.st rfl rfl (Yv.move rfl).yl ?_
          refine SOps.st rfl rfl (Yv.extract rfl rfl).yl ?_
          refine SOps.st rfl rfl (Yv.extract rfl rfl).yl ?_
          refine SOps.st rfl rfl (Yv.assign rfl).yl ?_
          refine SOps.st rfl rfl (Yv.assign rfl).yl ?_
          refine SOps.nil ?_
          refine Run.seq ?_
          refine Run.quiet (by intro h; cases h) ?_
          refine QOps.st rfl rfl (Yv.move rfl).yl ?_
          refine QOps.st rfl rfl (Yv.move rfl).yl ?_
          refine QOps.st rfl rfl (Yv.neB bool4 rfl rfl).yl ?_
          refine QOps.st rfl rfl (Yv.move rfl).yl ?_
          refine' QOps.or [_, _, _, _] _ (.tmp 138) rfl rfl rfl rfl rfl rfl (fun hg11 => ?_) ?_
          rotate_left
          · try replace hg11 := of_decide_eq_false hg11
            refine QOps.st rfl rfl (Yv.move rfl).yl ?_
            refine QOps.st rfl rfl (Yv.move rfl).yl ?_
            refine QOps.st rfl rfl (Yl.call callable38 (.cons rfl (.cons rfl (.nil))) (fun w' hw' => rFiles_spec ((Rd.row (i := 1) rfl) w' hw') ((Rd.row (i := 0) rfl) w' hw'))) ?_
            refine QOps.st rfl rfl (Yv.not rfl).yl ?_
            exact QOps.nil rfl
          refine QOps.nil ?_
          refine Run.cond rfl (fun hc12 => ?_) (fun hc12 => ?_)
          · exfalso
            first | (simp at hc12; done) | (simp at hc12; omega)
          · try replace hc12 := of_decide_eq_false hc12
            refine Run.skip ?_
            refine Run.seq ?_
            refine Run.seq ?_
            refine Run.quiet (by intro h; cases h) ?_
            refine QOps.st rfl rfl (Yv.assign rfl).yl ?_
            refine QOps.nil ?_
            refine Run.block ?_
            refine Run.loop (S := Nat) (fun s => match s with | k => k ≤ ya3.length) (fun s => match s with | k => [(15, .slice Aq3 ya3.length cq3), (17, .slice A5 ((keptOf ya3 yb3).length) c5), (18, .bool (keepOk ya3 yb3)), (21, .int .i64 (k : Int))]) (fun s => match s with | k => [.row A5 c5 25 6 (keptOf ya3 yb3).length ((keptOf ya3 yb3).flatMap Report.enc), .row Aq3 cq3 25 6 ya3.length (ya3.flatMap Report.enc)]) (fun s => match s with | k => ya3.length - k) 0 ?_ (SubE.cons rfl (SubE.cons rfl (SubE.cons rfl (SubE.cons rfl (SubE.nil _))))) (List.Sublist.cons _ (List.Sublist.cons_cons _ (List.Sublist.cons_cons _ (List.nil_sublist _)))) ?_
            · exact Nat.zero_le _
            · rintro k hk
              show Run _ _ _ _ _ [(15, .slice Aq3 ya3.length cq3), (17, .slice A5 ((keptOf ya3 yb3).length) c5), (18, .bool (keepOk ya3 yb3)), (21, .int .i64 (k : Int))] [.row A5 c5 25 6 (keptOf ya3 yb3).length ((keptOf ya3 yb3).flatMap Report.enc), .row Aq3 cq3 25 6 ya3.length (ya3.flatMap Report.enc)] _
              refine Run.seq ?_
              refine Run.seq ?_
              refine Run.quiet (by intro h; cases h) ?_
              refine QOps.st rfl rfl (Yv.move rfl).yl ?_
              refine QOps.st rfl rfl (Yv.move rfl).yl ?_
              refine QOps.st rfl rfl (Yv.lenS el31s rfl).yl ?_
              refine QOps.st rfl rfl (Yv.lss rfl rfl).yl ?_
              refine QOps.st rfl rfl (Yv.move rfl).yl ?_
              refine' QOps.and [_] _ (.tmp 145) rfl rfl rfl rfl rfl rfl (fun hg12 => ?_) ?_
              rotate_left
              · try replace hg12 := of_decide_eq_true hg12
                refine QOps.st rfl rfl (Yv.move rfl).yl ?_
                exact QOps.nil rfl
              refine QOps.nil ?_
              refine Run.cond rfl (fun hc13 => ?_) (fun hc13 => ?_)
              · try replace hc13 := of_decide_eq_true hc13
                rw [Bool.and_eq_true, decide_eq_true_eq] at hc13
                refine Run.skip ?_
                refine Run.seq ?_
                refine Run.block ?_
                refine Run.seq ?_
                refine Run.ops ?_
                refine SOps.st rfl rfl (Yv.move rfl).yl ?_
                refine SOps.st rfl rfl (Yv.move rfl).yl ?_
                refine SOps.st rfl rfl (Yv.move rfl).yl ?_
                refine SOps.st rfl rfl (Yv.indexAddr k el31 rfl rfl rfl (Rd.row (i := 1) rfl) (by omega)).yl ?_
                refine SOps.st rfl rfl (Yv.fieldAddr fld25_0 rfl).yl ?_
                refine SOps.st rfl rfl (Yv.loadF lay3 rfl Report.len (Rd.row (i := 1) rfl) (by first | omega | (simp; omega)) (by decide) rfl).yl ?_
                refine SOps.st rfl rfl (Yl.call callable20 (.cons rfl (.cons rfl (.nil))) (fun w' hw' => LastReport_spec ((Rd.row (i := 1) rfl) w' hw'))) ?_
                refine SOps.st rfl rfl (Yv.move rfl).yl ?_
                refine SOps.st rfl rfl (Yv.extract rfl rfl).yl ?_
                refine SOps.st rfl rfl (Yv.extract rfl rfl).yl ?_
                refine SOps.one rfl (One.alloc rfl zero25 (fun b5 => ?_))
                refine SOps.one rfl (One.store (i := 0) (off := 0) (vs := [_, _, _, _, _, _]) (cs' := [_, _, _, _, _, _]) (H' := [_, _, _]) lay25 rfl rfl rfl rfl rfl rfl rfl rfl rfl rfl ?_)
                refine SOps.st rfl rfl (Yv.assign rfl).yl ?_
                refine SOps.nil ?_
                refine Run.seq ?_
                refine Run.ops ?_
                refine SOps.st rfl rfl (Yv.move rfl).yl ?_
                refine SOps.st rfl rfl (Yv.move rfl).yl ?_
                refine SOps.st rfl rfl (Yv.move rfl).yl ?_
                refine SOps.st rfl rfl (Yv.indexAddr k el31 rfl rfl rfl (Rd.row (i := 2) rfl) (by omega)).yl ?_
                refine SOps.st rfl rfl (Yv.fieldAddr fld25_0 rfl).yl ?_
                refine SOps.st rfl rfl (Yv.loadF lay3 rfl Report.len (Rd.row (i := 2) rfl) (by first | omega | (simp; omega)) (by decide) rfl).yl ?_
                refine SOps.st rfl rfl (Yl.call callable20 (.cons rfl (.cons rfl (.nil))) (fun w' hw' => LastReport_spec ((Rd.row (i := 1) rfl) w' hw'))) ?_
                refine SOps.st rfl rfl (Yv.move rfl).yl ?_
                refine SOps.st rfl rfl (Yv.extract rfl rfl).yl ?_
                refine SOps.st rfl rfl (Yv.extract rfl rfl).yl ?_
                refine SOps.one rfl (One.alloc rfl zero25 (fun b6 => ?_))
                refine SOps.one rfl (One.store (i := 0) (off := 0) (vs := [_, _, _, _, _, _]) (cs' := [_, _, _, _, _, _]) (H' := [_, _, _, _]) lay25 rfl rfl rfl rfl rfl rfl rfl rfl rfl rfl ?_)
                refine SOps.st rfl rfl (Yv.assign rfl).yl ?_
                refine SOps.nil ?_
                refine Run.seq ?_
                refine Run.quiet (by intro h; cases h) ?_
                refine QOps.st rfl rfl (Yv.move rfl).yl ?_
                refine QOps.st rfl rfl (Yv.not rfl).yl ?_
                refine QOps.st rfl rfl (Yv.move rfl).yl ?_
                refine' QOps.or [_, _] _ (.tmp 173) rfl rfl rfl rfl rfl rfl (fun hg13 => ?_) ?_
                rotate_left
                · try replace hg13 := of_decide_eq_false hg13
                  refine QOps.st rfl rfl (Yv.move rfl).yl ?_
                  refine QOps.st rfl rfl (Yv.not rfl).yl ?_
                  exact QOps.nil rfl
                refine QOps.st rfl rfl (Yv.move rfl).yl ?_
                refine' QOps.or [_, _, _] _ (.tmp 178) rfl rfl rfl rfl rfl rfl (fun hg14 => ?_) ?_
                rotate_left
                · try replace hg14 := of_decide_eq_false hg14
                  refine QOps.st rfl rfl (Yv.loadBs (i := 1) lay25 rfl rfl rfl rfl).yl ?_
                  refine QOps.st rfl rfl (Yv.loadBs (i := 0) lay25 rfl rfl rfl rfl).yl ?_
                  refine QOps.st rfl rfl (Yv.neS scal25 rfl rfl rfl rfl).yl ?_
                  exact QOps.nil rfl
                refine QOps.nil ?_
                refine Run.cond rfl (fun hc14 => ?_) (fun hc14 => ?_)
                · exfalso
                  obtain ⟨hfk, r, e1, e2⟩ := keep_last (m := yb3) hc13.2 (show k < ya3.length by omega); simp [e1, e2, eqC] at hc14
                · try replace hc14 := of_decide_eq_false hc14
                  refine Run.skip ?_
                  refine Run.quiet (by intro h; cases h) ?_
                  refine QOps.st rfl rfl (Yv.move rfl).yl ?_
                  refine QOps.st rfl rfl (Yv.succN rfl rfl (by omega)).yl ?_
                  refine QOps.st rfl rfl (Yv.assign rfl).yl ?_
                  refine QOps.nil ?_
                  refine ⟨k + 1, ?_, ?_, (SubE.cons rfl (SubE.cons rfl (SubE.cons rfl (SubE.cons rfl (SubE.nil _))))), (List.Sublist.cons _ (List.Sublist.cons _ (List.Sublist.refl _)))⟩
                  · show k + 1 ≤ _; omega
                  · (dsimp only; omega)
              · try replace hc13 := of_decide_eq_false hc13
                refine Run.exit ?_
                refine Run.seq ?_
                refine Run.quiet (by intro h; cases h) ?_
                refine QOps.st rfl rfl (Yv.move rfl).yl ?_
                refine QOps.st rfl rfl (Yv.not rfl).yl ?_
                refine QOps.st rfl rfl (Yv.move rfl).yl ?_
                refine' QOps.or [_, _] _ (.tmp 184) rfl rfl rfl rfl rfl rfl (fun hg15 => ?_) ?_
                rotate_left
                · try replace hg15 := of_decide_eq_false hg15
                  refine QOps.st rfl rfl (Yv.move rfl).yl ?_
                  refine QOps.st rfl rfl (Yl.call callable17 (.cons rfl (.nil)) (fun w' hw' => IsFile_spec ((Rd.row (i := 0) rfl) w' hw'))) ?_
                  exact QOps.nil rfl
                refine QOps.st rfl rfl (Yv.assign rfl).yl ?_
                refine QOps.nil ?_
                refine Run.ret ?_
                refine retQ.of (.inr rfl) rfl (.tmp rfl .nil) (fun w' hw' => ?_)
                refine ⟨?_, hw'.bel.below⟩
                refine retB_eq ?_
                cases h : keepOk ya3 yb3
                · rfl
                · rw [keep_file h]; rfl
end Go.Proofs.Ytlpgcbkialcjcaa
