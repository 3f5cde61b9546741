/- Notices: when they are notices, which one a trip meets, the least value. Conditions: none. -/
import Derived.Test.YtjabeiolgghfdaaNot1
namespace Go.Proofs.Ytjabeiolgghfdaa
open Go.RowKit
theorem inside_spec {w : World} {n lo hi : Int} : Calls Try.prog 53 #[.int .i64 n, .int .i64 lo, .int .i64 hi] w (RetB w (.bool (inB n lo hi))) := by
  refine calls_of_run (vs := [_, _, _]) (L := [(0, _), (1, _), (2, _)]) (n := 15) (F := []) (H := []) Try.func53 rfl rfl rfl rfl (HOk.start _) ?_
  refine Run.seq ?_
  refine Run.quiet (by intro h; cases h) ?_
  refine QOps.st rfl rfl (Yv.assign rfl).yl ?_
  refine QOps.nil ?_
  refine Run.seq ?_
  refine Run.quiet (by intro h; cases h) ?_
  refine QOps.st rfl rfl (Yv.move rfl).yl ?_
  refine QOps.st rfl rfl (Yv.move rfl).yl ?_
  refine QOps.st rfl rfl (Yv.geq rfl rfl).yl ?_
  refine QOps.st rfl rfl (Yv.move rfl).yl ?_
  refine' QOps.and [_, _, _] _ (.tmp 13) rfl rfl rfl rfl rfl rfl (fun hg1 => ?_) ?_
  rotate_left
  · try replace hg1 := of_decide_eq_true hg1
    refine QOps.st rfl rfl (Yv.move rfl).yl ?_
    refine QOps.st rfl rfl (Yv.move rfl).yl ?_
    refine QOps.st rfl rfl (Yv.leq rfl rfl).yl ?_
    exact QOps.nil rfl
  refine QOps.st rfl rfl (Yv.assign rfl).yl ?_
  refine QOps.nil ?_
  refine Run.ret ?_
  refine retQ.of (.inr rfl) rfl (.tmp rfl .nil) (fun w' hw' => ?_)
  refine ⟨?_, hw'.bel.below⟩
  exact rfl

theorem l1In_spec {w : World} {n lo hi : Int} : Calls Try.prog 50 #[.int .i64 n, .int .i64 lo, .int .i64 hi] w (RetB w (.bool (inB n lo hi))) := by
  refine calls_of_run (vs := [_, _, _]) (L := [(0, _), (1, _), (2, _)]) (n := 15) (F := []) (H := []) Try.func50 rfl rfl rfl rfl (HOk.start _) ?_
  refine Run.seq ?_
  refine Run.quiet (by intro h; cases h) ?_
  refine QOps.st rfl rfl (Yv.assign rfl).yl ?_
  refine QOps.nil ?_
  refine Run.seq ?_
  refine Run.quiet (by intro h; cases h) ?_
  refine QOps.st rfl rfl (Yv.move rfl).yl ?_
  refine QOps.st rfl rfl (Yv.move rfl).yl ?_
  refine QOps.st rfl rfl (Yv.geq rfl rfl).yl ?_
  refine QOps.st rfl rfl (Yv.move rfl).yl ?_
  refine' QOps.and [_, _, _] _ (.tmp 13) rfl rfl rfl rfl rfl rfl (fun hg1 => ?_) ?_
  rotate_left
  · try replace hg1 := of_decide_eq_true hg1
    refine QOps.st rfl rfl (Yv.move rfl).yl ?_
    refine QOps.st rfl rfl (Yv.move rfl).yl ?_
    refine QOps.st rfl rfl (Yv.leq rfl rfl).yl ?_
    exact QOps.nil rfl
  refine QOps.st rfl rfl (Yv.assign rfl).yl ?_
  refine QOps.nil ?_
  refine Run.ret ?_
  refine retQ.of (.inr rfl) rfl (.tmp rfl .nil) (fun w' hw' => ?_)
  refine ⟨?_, hw'.bel.below⟩
  exact rfl

theorem isDay_spec {w : World} {n : Int} : Calls Try.prog 58 #[.int .i64 n] w (RetB w (.bool (inB n 0 365))) := by
  refine calls_of_run (vs := [_]) (L := [(0, _)]) (n := 5) (F := []) (H := []) Try.func58 rfl rfl rfl rfl (HOk.start _) ?_
  refine Run.seq ?_
  refine Run.quiet (by intro h; cases h) ?_
  refine QOps.st rfl rfl (Yv.assign rfl).yl ?_
  refine QOps.nil ?_
  refine Run.seq ?_
  refine Run.quiet (by intro h; cases h) ?_
  refine QOps.st rfl rfl (Yv.move rfl).yl ?_
  refine QOps.st rfl rfl (Yl.call callable53 (.cons rfl (.cons rfl (.cons rfl (.nil)))) (fun w' hw' => inside_spec)) ?_
  refine QOps.st rfl rfl (Yv.assign rfl).yl ?_
  refine QOps.nil ?_
  refine Run.ret ?_
  refine retQ.of (.inr rfl) rfl (.tmp rfl .nil) (fun w' hw' => ?_)
  refine ⟨?_, hw'.bel.below⟩
  exact rfl

theorem l22Day_spec {w : World} {n : Int} : Calls Try.prog 61 #[.int .i64 n] w (RetB w (.bool (inB n 0 365))) := by
  refine calls_of_run (vs := [_]) (L := [(0, _)]) (n := 5) (F := []) (H := []) Try.func61 rfl rfl rfl rfl (HOk.start _) ?_
  refine Run.seq ?_
  refine Run.quiet (by intro h; cases h) ?_
  refine QOps.st rfl rfl (Yv.assign rfl).yl ?_
  refine QOps.nil ?_
  refine Run.seq ?_
  refine Run.quiet (by intro h; cases h) ?_
  refine QOps.st rfl rfl (Yv.move rfl).yl ?_
  refine QOps.st rfl rfl (Yl.call callable50 (.cons rfl (.cons rfl (.cons rfl (.nil)))) (fun w' hw' => l1In_spec)) ?_
  refine QOps.st rfl rfl (Yv.assign rfl).yl ?_
  refine QOps.nil ?_
  refine Run.ret ?_
  refine retQ.of (.inr rfl) rfl (.tmp rfl .nil) (fun w' hw' => ?_)
  refine ⟨?_, hw'.bel.below⟩
  exact rfl

theorem isKilometer_spec {w : World} {n : Int} : Calls Try.prog 64 #[.int .i64 n] w (RetB w (.bool (inB n 0 600))) := by
  refine calls_of_run (vs := [_]) (L := [(0, _)]) (n := 5) (F := []) (H := []) Try.func64 rfl rfl rfl rfl (HOk.start _) ?_
  refine Run.seq ?_
  refine Run.quiet (by intro h; cases h) ?_
  refine QOps.st rfl rfl (Yv.assign rfl).yl ?_
  refine QOps.nil ?_
  refine Run.seq ?_
  refine Run.quiet (by intro h; cases h) ?_
  refine QOps.st rfl rfl (Yv.move rfl).yl ?_
  refine QOps.st rfl rfl (Yl.call callable53 (.cons rfl (.cons rfl (.cons rfl (.nil)))) (fun w' hw' => inside_spec)) ?_
  refine QOps.st rfl rfl (Yv.assign rfl).yl ?_
  refine QOps.nil ?_
  refine Run.ret ?_
  refine retQ.of (.inr rfl) rfl (.tmp rfl .nil) (fun w' hw' => ?_)
  refine ⟨?_, hw'.bel.below⟩
  exact rfl

theorem l17Place_spec {w : World} {n : Int} : Calls Try.prog 73 #[.int .i64 n] w (RetB w (.bool (inB n 0 600))) := by
  refine calls_of_run (vs := [_]) (L := [(0, _)]) (n := 5) (F := []) (H := []) Try.func73 rfl rfl rfl rfl (HOk.start _) ?_
  refine Run.seq ?_
  refine Run.quiet (by intro h; cases h) ?_
  refine QOps.st rfl rfl (Yv.assign rfl).yl ?_
  refine QOps.nil ?_
  refine Run.seq ?_
  refine Run.quiet (by intro h; cases h) ?_
  refine QOps.st rfl rfl (Yv.move rfl).yl ?_
  refine QOps.st rfl rfl (Yl.call callable50 (.cons rfl (.cons rfl (.cons rfl (.nil)))) (fun w' hw' => l1In_spec)) ?_
  refine QOps.st rfl rfl (Yv.assign rfl).yl ?_
  refine QOps.nil ?_
  refine Run.ret ?_
  refine retQ.of (.inr rfl) rfl (.tmp rfl .nil) (fun w' hw' => ?_)
  refine ⟨?_, hw'.bel.below⟩
  exact rfl

theorem isSpeed_spec {w : World} {n : Int} : Calls Try.prog 55 #[.int .i64 n] w (RetB w (.bool (inB n 1 20))) := by
  refine calls_of_run (vs := [_]) (L := [(0, _)]) (n := 5) (F := []) (H := []) Try.func55 rfl rfl rfl rfl (HOk.start _) ?_
  refine Run.seq ?_
  refine Run.quiet (by intro h; cases h) ?_
  refine QOps.st rfl rfl (Yv.assign rfl).yl ?_
  refine QOps.nil ?_
  refine Run.seq ?_
  refine Run.quiet (by intro h; cases h) ?_
  refine QOps.st rfl rfl (Yv.move rfl).yl ?_
  refine QOps.st rfl rfl (Yl.call callable53 (.cons rfl (.cons rfl (.cons rfl (.nil)))) (fun w' hw' => inside_spec)) ?_
  refine QOps.st rfl rfl (Yv.assign rfl).yl ?_
  refine QOps.nil ?_
  refine Run.ret ?_
  refine retQ.of (.inr rfl) rfl (.tmp rfl .nil) (fun w' hw' => ?_)
  refine ⟨?_, hw'.bel.below⟩
  exact rfl

theorem l1Most_spec {w : World} {n m : Int} : Calls Try.prog 77 #[.int .i64 n, .int .i64 m] w (RetB w (.int .i64 (max n m))) := by
  refine calls_of_run (vs := [_, _]) (L := [(0, _), (1, _)]) (n := 10) (F := []) (H := []) Try.func77 rfl rfl rfl rfl (HOk.start _) ?_
  refine Run.seq ?_
  refine Run.quiet (by intro h; cases h) ?_
  refine QOps.st rfl rfl (Yv.assign rfl).yl ?_
  refine QOps.nil ?_
  refine Run.seq ?_
  refine Run.seq ?_
  refine Run.quiet (by intro h; cases h) ?_
  refine QOps.st rfl rfl (Yv.move rfl).yl ?_
  refine QOps.st rfl rfl (Yv.move rfl).yl ?_
  refine QOps.st rfl rfl (Yv.gtr rfl rfl).yl ?_
  refine QOps.nil ?_
  refine Run.cond rfl (fun hc1 => ?_) (fun hc1 => ?_)
  · try replace hc1 := of_decide_eq_true hc1
    refine Run.seq ?_
    refine Run.quiet (by intro h; cases h) ?_
    refine QOps.st rfl rfl (Yv.move rfl).yl ?_
    refine QOps.st rfl rfl (Yv.assign rfl).yl ?_
    refine QOps.nil ?_
    refine Run.ret ?_
    refine retQ.of (.inr rfl) rfl (.tmp rfl .nil) (fun w' hw' => ?_)
    refine ⟨?_, hw'.bel.below⟩
    refine retI_eq ?_
    omega
  · try replace hc1 := of_decide_eq_false hc1
    refine Run.skip ?_
    refine Run.seq ?_
    refine Run.quiet (by intro h; cases h) ?_
    refine QOps.st rfl rfl (Yv.move rfl).yl ?_
    refine QOps.st rfl rfl (Yv.assign rfl).yl ?_
    refine QOps.nil ?_
    refine Run.ret ?_
    refine retQ.of (.inr rfl) rfl (.tmp rfl .nil) (fun w' hw' => ?_)
    refine ⟨?_, hw'.bel.below⟩
    refine retI_eq ?_
    omega

theorem l1Least_spec {w : World} {n m : Int} : Calls Try.prog 74 #[.int .i64 n, .int .i64 m] w (RetB w (.int .i64 (min n m))) := by
  refine calls_of_run (vs := [_, _]) (L := [(0, _), (1, _)]) (n := 10) (F := []) (H := []) Try.func74 rfl rfl rfl rfl (HOk.start _) ?_
  refine Run.seq ?_
  refine Run.quiet (by intro h; cases h) ?_
  refine QOps.st rfl rfl (Yv.assign rfl).yl ?_
  refine QOps.nil ?_
  refine Run.seq ?_
  refine Run.seq ?_
  refine Run.quiet (by intro h; cases h) ?_
  refine QOps.st rfl rfl (Yv.move rfl).yl ?_
  refine QOps.st rfl rfl (Yv.move rfl).yl ?_
  refine QOps.st rfl rfl (Yv.lss rfl rfl).yl ?_
  refine QOps.nil ?_
  refine Run.cond rfl (fun hc1 => ?_) (fun hc1 => ?_)
  · try replace hc1 := of_decide_eq_true hc1
    refine Run.seq ?_
    refine Run.quiet (by intro h; cases h) ?_
    refine QOps.st rfl rfl (Yv.move rfl).yl ?_
    refine QOps.st rfl rfl (Yv.assign rfl).yl ?_
    refine QOps.nil ?_
    refine Run.ret ?_
    refine retQ.of (.inr rfl) rfl (.tmp rfl .nil) (fun w' hw' => ?_)
    refine ⟨?_, hw'.bel.below⟩
    refine retI_eq ?_
    omega
  · try replace hc1 := of_decide_eq_false hc1
    refine Run.skip ?_
    refine Run.seq ?_
    refine Run.quiet (by intro h; cases h) ?_
    refine QOps.st rfl rfl (Yv.move rfl).yl ?_
    refine QOps.st rfl rfl (Yv.assign rfl).yl ?_
    refine QOps.nil ?_
    refine Run.ret ?_
    refine retQ.of (.inr rfl) rfl (.tmp rfl .nil) (fun w' hw' => ?_)
    refine ⟨?_, hw'.bel.below⟩
    refine retI_eq ?_
    omega

def nBase (n : Notice) : Bool := inB n.id 1 999 && inB n.start 0 600 && inB n.stop n.start 600 && inB n.first 0 365 && inB n.last n.first 365
def nKind (n : Notice) : Bool := if n.kind = 1 then decide (n.value = 0) else if n.kind = 2 then inB n.value 0 900 else if n.kind = 3 then inB n.value 1 20 else false
/-- A notice is as it should be. -/
def noticeOk (n : Notice) : Bool := nBase n && nKind n
theorem noticeOk_no {n : Notice} (h : nBase n = false) : noticeOk n = false := by unfold noticeOk; rw [h]; rfl
theorem noticeOk_yes {n : Notice} (h : nBase n = true) : noticeOk n = nKind n := by unfold noticeOk; rw [h]; rfl
theorem noticeOk_way {n : Notice} (h : noticeOk n = true) : n.start ≤ n.stop := by
  simp only [noticeOk, nBase, Bool.and_eq_true, inB_iff] at h
  omega
theorem l22One_spec {w : World} {n : Notice} : Calls Try.prog 72 #[.agg n.enc.toArray] w (RetB w (.bool (noticeOk n))) := by
  refine calls_of_run (vs := [_]) (L := [(0, _)]) (n := 52) (F := []) (H := []) Try.func72 rfl rfl rfl rfl (HOk.start _) ?_
  refine Run.seq ?_
  refine Run.ops ?_
  refine SOps.one rfl (One.box (cs := [_, _, _, _, _, _, _]) rfl rfl rfl (fun b1 => ?_))
  refine SOps.st rfl rfl (Yv.assign rfl).yl ?_
  refine SOps.nil ?_
  refine Run.seq ?_
  refine Run.seq ?_
  refine Run.quiet (by intro h; cases h) ?_
  refine QOps.st rfl rfl (Yv.fieldAddr fld59_0 rfl).yl ?_
  refine QOps.st rfl rfl (Yv.loadB (i := 0) lay3 rfl rfl rfl rfl).yl ?_
  refine QOps.st rfl rfl (Yl.call callable50 (.cons rfl (.cons rfl (.cons rfl (.nil)))) (fun w' hw' => l1In_spec)) ?_
  refine QOps.st rfl rfl (Yv.not rfl).yl ?_
  refine QOps.st rfl rfl (Yv.move rfl).yl ?_
  refine' QOps.or [_, _, _, _] _ (.tmp 11) rfl rfl rfl rfl rfl rfl (fun hg1 => ?_) ?_
  rotate_left
  · try replace hg1 := of_decide_eq_false hg1
    refine QOps.st rfl rfl (Yv.fieldAddr fld59_2 rfl).yl ?_
    refine QOps.st rfl rfl (Yv.loadB (i := 0) lay3 rfl rfl rfl rfl).yl ?_
    refine QOps.st rfl rfl (Yl.call callable73 (.cons rfl (.nil)) (fun w' hw' => l17Place_spec)) ?_
    refine QOps.st rfl rfl (Yv.not rfl).yl ?_
    exact QOps.nil rfl
  refine QOps.st rfl rfl (Yv.move rfl).yl ?_
  refine' QOps.or [_, _, _, _, _, _] _ (.tmp 19) rfl rfl rfl rfl rfl rfl (fun hg2 => ?_) ?_
  rotate_left
  · try replace hg2 := of_decide_eq_false hg2
    refine QOps.st rfl rfl (Yv.fieldAddr fld59_3 rfl).yl ?_
    refine QOps.st rfl rfl (Yv.loadB (i := 0) lay3 rfl rfl rfl rfl).yl ?_
    refine QOps.st rfl rfl (Yv.fieldAddr fld59_2 rfl).yl ?_
    refine QOps.st rfl rfl (Yv.loadB (i := 0) lay3 rfl rfl rfl rfl).yl ?_
    refine QOps.st rfl rfl (Yl.call callable50 (.cons rfl (.cons rfl (.cons rfl (.nil)))) (fun w' hw' => l1In_spec)) ?_
    refine QOps.st rfl rfl (Yv.not rfl).yl ?_
    exact QOps.nil rfl
  refine QOps.st rfl rfl (Yv.move rfl).yl ?_
  refine' QOps.or [_, _, _, _] _ (.tmp 25) rfl rfl rfl rfl rfl rfl (fun hg3 => ?_) ?_
  rotate_left
  · try replace hg3 := of_decide_eq_false hg3
    refine QOps.st rfl rfl (Yv.fieldAddr fld59_4 rfl).yl ?_
    refine QOps.st rfl rfl (Yv.loadB (i := 0) lay3 rfl rfl rfl rfl).yl ?_
    refine QOps.st rfl rfl (Yl.call callable61 (.cons rfl (.nil)) (fun w' hw' => l22Day_spec)) ?_
    refine QOps.st rfl rfl (Yv.not rfl).yl ?_
    exact QOps.nil rfl
  refine QOps.st rfl rfl (Yv.move rfl).yl ?_
  refine' QOps.or [_, _, _, _, _, _] _ (.tmp 33) rfl rfl rfl rfl rfl rfl (fun hg4 => ?_) ?_
  rotate_left
  · try replace hg4 := of_decide_eq_false hg4
    refine QOps.st rfl rfl (Yv.fieldAddr fld59_5 rfl).yl ?_
    refine QOps.st rfl rfl (Yv.loadB (i := 0) lay3 rfl rfl rfl rfl).yl ?_
    refine QOps.st rfl rfl (Yv.fieldAddr fld59_4 rfl).yl ?_
    refine QOps.st rfl rfl (Yv.loadB (i := 0) lay3 rfl rfl rfl rfl).yl ?_
    refine QOps.st rfl rfl (Yl.call callable50 (.cons rfl (.cons rfl (.cons rfl (.nil)))) (fun w' hw' => l1In_spec)) ?_
    refine QOps.st rfl rfl (Yv.not rfl).yl ?_
    exact QOps.nil rfl
  refine QOps.nil ?_
  refine Run.cond rfl (fun hc1 => ?_) (fun hc1 => ?_)
  · try replace hc1 := of_decide_eq_true hc1
    have hb : nBase n = false := by revert hc1; simp [nBase, inB] <;> omega
    refine Run.seq ?_
    refine Run.quiet (by intro h; cases h) ?_
    refine QOps.st rfl rfl (Yv.assign rfl).yl ?_
    refine QOps.nil ?_
    refine Run.ret ?_
    refine retQ.of (.inr rfl) rfl (.tmp rfl .nil) (fun w' hw' => ?_)
    refine ⟨?_, hw'.bel.below⟩
    refine retB_eq ?_
    exact (noticeOk_no hb).symm
  · try replace hc1 := of_decide_eq_false hc1
    have hb : nBase n = true := by revert hc1; simp [nBase, inB] <;> omega
    refine Run.skip ?_
    refine Run.seq ?_
    refine Run.seq ?_
    refine Run.quiet (by intro h; cases h) ?_
    refine QOps.st rfl rfl (Yv.fieldAddr fld59_1 rfl).yl ?_
    refine QOps.st rfl rfl (Yv.loadB (i := 0) lay3 rfl rfl rfl rfl).yl ?_
    refine QOps.nil ?_
    refine Run.block ?_
    refine Run.seq ?_
    refine Run.quiet (by intro h; cases h) ?_
    refine QOps.st rfl rfl (Yv.eqI rfl rfl).yl ?_
    refine QOps.st rfl rfl (Yv.assign rfl).yl ?_
    refine QOps.nil ?_
    refine Run.cond rfl (fun hc2 => ?_) (fun hc2 => ?_)
    · try replace hc2 := of_decide_eq_true hc2
      refine Run.seq ?_
      refine Run.quiet (by intro h; cases h) ?_
      refine QOps.st rfl rfl (Yv.fieldAddr fld59_6 rfl).yl ?_
      refine QOps.st rfl rfl (Yv.loadB (i := 0) lay3 rfl rfl rfl rfl).yl ?_
      refine QOps.st rfl rfl (Yv.eqI rfl rfl).yl ?_
      refine QOps.st rfl rfl (Yv.assign rfl).yl ?_
      refine QOps.nil ?_
      refine Run.ret ?_
      refine retQ.of (.inr rfl) rfl (.tmp rfl .nil) (fun w' hw' => ?_)
      refine ⟨?_, hw'.bel.below⟩
      refine retB_eq ?_
      rw [noticeOk_yes hb]
      unfold nKind
      rw [if_pos hc2]
    · try replace hc2 := of_decide_eq_false hc2
      refine Run.seq ?_
      refine Run.quiet (by intro h; cases h) ?_
      refine QOps.st rfl rfl (Yv.eqI rfl rfl).yl ?_
      refine QOps.st rfl rfl (Yv.assign rfl).yl ?_
      refine QOps.nil ?_
      refine Run.cond rfl (fun hc3 => ?_) (fun hc3 => ?_)
      · try replace hc3 := of_decide_eq_true hc3
        refine Run.seq ?_
        refine Run.quiet (by intro h; cases h) ?_
        refine QOps.st rfl rfl (Yv.fieldAddr fld59_6 rfl).yl ?_
        refine QOps.st rfl rfl (Yv.loadB (i := 0) lay3 rfl rfl rfl rfl).yl ?_
        refine QOps.st rfl rfl (Yl.call callable50 (.cons rfl (.cons rfl (.cons rfl (.nil)))) (fun w' hw' => l1In_spec)) ?_
        refine QOps.st rfl rfl (Yv.assign rfl).yl ?_
        refine QOps.nil ?_
        refine Run.ret ?_
        refine retQ.of (.inr rfl) rfl (.tmp rfl .nil) (fun w' hw' => ?_)
        refine ⟨?_, hw'.bel.below⟩
        refine retB_eq ?_
        rw [noticeOk_yes hb]
        unfold nKind
        rw [if_neg hc2, if_pos hc3]
      · try replace hc3 := of_decide_eq_false hc3
        refine Run.seq ?_
        refine Run.quiet (by intro h; cases h) ?_
        refine QOps.st rfl rfl (Yv.eqI rfl rfl).yl ?_
        refine QOps.st rfl rfl (Yv.assign rfl).yl ?_
        refine QOps.nil ?_
        refine Run.cond rfl (fun hc4 => ?_) (fun hc4 => ?_)
        · try replace hc4 := of_decide_eq_true hc4
          refine Run.seq ?_
          refine Run.quiet (by intro h; cases h) ?_
          refine QOps.st rfl rfl (Yv.fieldAddr fld59_6 rfl).yl ?_
          refine QOps.st rfl rfl (Yv.loadB (i := 0) lay3 rfl rfl rfl rfl).yl ?_
          refine QOps.st rfl rfl (Yl.call callable50 (.cons rfl (.cons rfl (.cons rfl (.nil)))) (fun w' hw' => l1In_spec)) ?_
          refine QOps.st rfl rfl (Yv.assign rfl).yl ?_
          refine QOps.nil ?_
          refine Run.ret ?_
          refine retQ.of (.inr rfl) rfl (.tmp rfl .nil) (fun w' hw' => ?_)
          refine ⟨?_, hw'.bel.below⟩
          refine retB_eq ?_
          rw [noticeOk_yes hb]
          unfold nKind
          rw [if_neg hc2, if_neg hc3, if_pos hc4]
        · try replace hc4 := of_decide_eq_false hc4
          refine Run.skip ?_
          refine Run.seq ?_
          refine Run.quiet (by intro h; cases h) ?_
          refine QOps.st rfl rfl (Yv.assign rfl).yl ?_
          refine QOps.nil ?_
          refine Run.ret ?_
          refine retQ.of (.inr rfl) rfl (.tmp rfl .nil) (fun w' hw' => ?_)
          refine ⟨?_, hw'.bel.below⟩
          refine retB_eq ?_
          rw [noticeOk_yes hb]
          unfold nKind
          rw [if_neg hc2, if_neg hc3, if_neg hc4]

theorem isNotice_spec {w : World} {n : Notice} : Calls Try.prog 47 #[.agg n.enc.toArray] w (RetB w (.bool (noticeOk n))) := by
  refine calls_of_run (vs := [_]) (L := [(0, _)]) (n := 65) (F := []) (H := []) Try.func47 rfl rfl rfl rfl (HOk.start _) ?_
  refine Run.seq ?_
  refine Run.ops ?_
  refine SOps.one rfl (One.box (cs := [_, _, _, _, _, _, _]) rfl rfl rfl (fun b1 => ?_))
  refine SOps.st rfl rfl (Yv.assign rfl).yl ?_
  refine SOps.nil ?_
  refine Run.seq ?_
  refine Run.seq ?_
  refine Run.quiet (by intro h; cases h) ?_
  refine QOps.st rfl rfl (Yv.fieldAddr fld59_0 rfl).yl ?_
  refine QOps.st rfl rfl (Yv.loadB (i := 0) lay3 rfl rfl rfl rfl).yl ?_
  refine QOps.st rfl rfl (Yl.call callable53 (.cons rfl (.cons rfl (.cons rfl (.nil)))) (fun w' hw' => inside_spec)) ?_
  refine QOps.st rfl rfl (Yv.not rfl).yl ?_
  refine QOps.st rfl rfl (Yv.move rfl).yl ?_
  refine' QOps.or [_, _, _, _] _ (.tmp 11) rfl rfl rfl rfl rfl rfl (fun hg1 => ?_) ?_
  rotate_left
  · try replace hg1 := of_decide_eq_false hg1
    refine QOps.st rfl rfl (Yv.fieldAddr fld59_2 rfl).yl ?_
    refine QOps.st rfl rfl (Yv.loadB (i := 0) lay3 rfl rfl rfl rfl).yl ?_
    refine QOps.st rfl rfl (Yl.call callable64 (.cons rfl (.nil)) (fun w' hw' => isKilometer_spec)) ?_
    refine QOps.st rfl rfl (Yv.not rfl).yl ?_
    exact QOps.nil rfl
  refine QOps.st rfl rfl (Yv.move rfl).yl ?_
  refine' QOps.or [_, _, _, _] _ (.tmp 17) rfl rfl rfl rfl rfl rfl (fun hg2 => ?_) ?_
  rotate_left
  · try replace hg2 := of_decide_eq_false hg2
    refine QOps.st rfl rfl (Yv.fieldAddr fld59_3 rfl).yl ?_
    refine QOps.st rfl rfl (Yv.loadB (i := 0) lay3 rfl rfl rfl rfl).yl ?_
    refine QOps.st rfl rfl (Yl.call callable64 (.cons rfl (.nil)) (fun w' hw' => isKilometer_spec)) ?_
    refine QOps.st rfl rfl (Yv.not rfl).yl ?_
    exact QOps.nil rfl
  refine QOps.st rfl rfl (Yv.move rfl).yl ?_
  refine' QOps.or [_, _, _, _, _] _ (.tmp 24) rfl rfl rfl rfl rfl rfl (fun hg3 => ?_) ?_
  rotate_left
  · try replace hg3 := of_decide_eq_false hg3
    refine QOps.st rfl rfl (Yv.fieldAddr fld59_2 rfl).yl ?_
    refine QOps.st rfl rfl (Yv.loadB (i := 0) lay3 rfl rfl rfl rfl).yl ?_
    refine QOps.st rfl rfl (Yv.fieldAddr fld59_3 rfl).yl ?_
    refine QOps.st rfl rfl (Yv.loadB (i := 0) lay3 rfl rfl rfl rfl).yl ?_
    refine QOps.st rfl rfl (Yv.gtr rfl rfl).yl ?_
    exact QOps.nil rfl
  refine QOps.st rfl rfl (Yv.move rfl).yl ?_
  refine' QOps.or [_, _, _, _] _ (.tmp 30) rfl rfl rfl rfl rfl rfl (fun hg4 => ?_) ?_
  rotate_left
  · try replace hg4 := of_decide_eq_false hg4
    refine QOps.st rfl rfl (Yv.fieldAddr fld59_4 rfl).yl ?_
    refine QOps.st rfl rfl (Yv.loadB (i := 0) lay3 rfl rfl rfl rfl).yl ?_
    refine QOps.st rfl rfl (Yl.call callable58 (.cons rfl (.nil)) (fun w' hw' => isDay_spec)) ?_
    refine QOps.st rfl rfl (Yv.not rfl).yl ?_
    exact QOps.nil rfl
  refine QOps.st rfl rfl (Yv.move rfl).yl ?_
  refine' QOps.or [_, _, _, _] _ (.tmp 36) rfl rfl rfl rfl rfl rfl (fun hg5 => ?_) ?_
  rotate_left
  · try replace hg5 := of_decide_eq_false hg5
    refine QOps.st rfl rfl (Yv.fieldAddr fld59_5 rfl).yl ?_
    refine QOps.st rfl rfl (Yv.loadB (i := 0) lay3 rfl rfl rfl rfl).yl ?_
    refine QOps.st rfl rfl (Yl.call callable58 (.cons rfl (.nil)) (fun w' hw' => isDay_spec)) ?_
    refine QOps.st rfl rfl (Yv.not rfl).yl ?_
    exact QOps.nil rfl
  refine QOps.st rfl rfl (Yv.move rfl).yl ?_
  refine' QOps.or [_, _, _, _, _] _ (.tmp 43) rfl rfl rfl rfl rfl rfl (fun hg6 => ?_) ?_
  rotate_left
  · try replace hg6 := of_decide_eq_false hg6
    refine QOps.st rfl rfl (Yv.fieldAddr fld59_4 rfl).yl ?_
    refine QOps.st rfl rfl (Yv.loadB (i := 0) lay3 rfl rfl rfl rfl).yl ?_
    refine QOps.st rfl rfl (Yv.fieldAddr fld59_5 rfl).yl ?_
    refine QOps.st rfl rfl (Yv.loadB (i := 0) lay3 rfl rfl rfl rfl).yl ?_
    refine QOps.st rfl rfl (Yv.gtr rfl rfl).yl ?_
    exact QOps.nil rfl
  refine QOps.nil ?_
  refine Run.cond rfl (fun hc1 => ?_) (fun hc1 => ?_)
  · try replace hc1 := of_decide_eq_true hc1
    have hb : nBase n = false := by revert hc1; simp [nBase, inB] <;> omega
    refine Run.seq ?_
    refine Run.quiet (by intro h; cases h) ?_
    refine QOps.st rfl rfl (Yv.assign rfl).yl ?_
    refine QOps.nil ?_
    refine Run.ret ?_
    refine retQ.of (.inr rfl) rfl (.tmp rfl .nil) (fun w' hw' => ?_)
    refine ⟨?_, hw'.bel.below⟩
    refine retB_eq ?_
    exact (noticeOk_no hb).symm
  · try replace hc1 := of_decide_eq_false hc1
    have hb : nBase n = true := by revert hc1; simp [nBase, inB] <;> omega
    refine Run.skip ?_
    refine Run.seq ?_
    refine Run.seq ?_
    refine Run.quiet (by intro h; cases h) ?_
    refine QOps.st rfl rfl (Yv.fieldAddr fld59_1 rfl).yl ?_
    refine QOps.st rfl rfl (Yv.loadB (i := 0) lay3 rfl rfl rfl rfl).yl ?_
    refine QOps.nil ?_
    refine Run.block ?_
    refine Run.seq ?_
    refine Run.quiet (by intro h; cases h) ?_
    refine QOps.st rfl rfl (Yv.eqI rfl rfl).yl ?_
    refine QOps.st rfl rfl (Yv.assign rfl).yl ?_
    refine QOps.nil ?_
    refine Run.cond rfl (fun hc2 => ?_) (fun hc2 => ?_)
    · try replace hc2 := of_decide_eq_true hc2
      refine Run.seq ?_
      refine Run.quiet (by intro h; cases h) ?_
      refine QOps.st rfl rfl (Yv.fieldAddr fld59_6 rfl).yl ?_
      refine QOps.st rfl rfl (Yv.loadB (i := 0) lay3 rfl rfl rfl rfl).yl ?_
      refine QOps.st rfl rfl (Yv.eqI rfl rfl).yl ?_
      refine QOps.st rfl rfl (Yv.assign rfl).yl ?_
      refine QOps.nil ?_
      refine Run.ret ?_
      refine retQ.of (.inr rfl) rfl (.tmp rfl .nil) (fun w' hw' => ?_)
      refine ⟨?_, hw'.bel.below⟩
      refine retB_eq ?_
      rw [noticeOk_yes hb]
      unfold nKind
      rw [if_pos hc2]
    · try replace hc2 := of_decide_eq_false hc2
      refine Run.seq ?_
      refine Run.quiet (by intro h; cases h) ?_
      refine QOps.st rfl rfl (Yv.eqI rfl rfl).yl ?_
      refine QOps.st rfl rfl (Yv.assign rfl).yl ?_
      refine QOps.nil ?_
      refine Run.cond rfl (fun hc3 => ?_) (fun hc3 => ?_)
      · try replace hc3 := of_decide_eq_true hc3
        refine Run.seq ?_
        refine Run.quiet (by intro h; cases h) ?_
        refine QOps.st rfl rfl (Yv.fieldAddr fld59_6 rfl).yl ?_
        refine QOps.st rfl rfl (Yv.loadB (i := 0) lay3 rfl rfl rfl rfl).yl ?_
        refine QOps.st rfl rfl (Yl.call callable53 (.cons rfl (.cons rfl (.cons rfl (.nil)))) (fun w' hw' => inside_spec)) ?_
        refine QOps.st rfl rfl (Yv.assign rfl).yl ?_
        refine QOps.nil ?_
        refine Run.ret ?_
        refine retQ.of (.inr rfl) rfl (.tmp rfl .nil) (fun w' hw' => ?_)
        refine ⟨?_, hw'.bel.below⟩
        refine retB_eq ?_
        rw [noticeOk_yes hb]
        unfold nKind
        rw [if_neg hc2, if_pos hc3]
      · try replace hc3 := of_decide_eq_false hc3
        refine Run.skip ?_
        refine Run.seq ?_
        refine Run.quiet (by intro h; cases h) ?_
        refine QOps.st rfl rfl (Yv.fieldAddr fld59_1 rfl).yl ?_
        refine QOps.st rfl rfl (Yv.loadB (i := 0) lay3 rfl rfl rfl rfl).yl ?_
        refine QOps.st rfl rfl (Yv.eqI rfl rfl).yl ?_
        refine QOps.st rfl rfl (Yv.move rfl).yl ?_
        refine' QOps.and [_, _, _] _ (.tmp 63) rfl rfl rfl rfl rfl rfl (fun hg7 => ?_) ?_
        rotate_left
        · try replace hg7 := of_decide_eq_true hg7
          refine QOps.st rfl rfl (Yv.fieldAddr fld59_6 rfl).yl ?_
          refine QOps.st rfl rfl (Yv.loadB (i := 0) lay3 rfl rfl rfl rfl).yl ?_
          refine QOps.st rfl rfl (Yl.call callable55 (.cons rfl (.nil)) (fun w' hw' => isSpeed_spec)) ?_
          exact QOps.nil rfl
        refine QOps.st rfl rfl (Yv.assign rfl).yl ?_
        refine QOps.nil ?_
        refine Run.ret ?_
        refine retQ.of (.inr rfl) rfl (.tmp rfl .nil) (fun w' hw' => ?_)
        refine ⟨?_, hw'.bel.below⟩
        refine retB_eq ?_
        rw [noticeOk_yes hb]
        unfold nKind
        rw [if_neg hc2, if_neg hc3]
        by_cases h3 : n.kind = 3
        · rw [if_pos h3, decide_eq_true h3]; rfl
        · rw [if_neg h3, decide_eq_false h3]; rfl

def badNotice (ns : List Notice) (k : Nat) : Bool := !noticeOk (nth ns k) || (decide ((0 : Int) < (k : Int)) && decide ((nth ns k).id ≤ (nth ns (k - 1)).id))
/-- At most ten notices, each as it should be, by ever greater numbers. -/
def areNotices (ns : List Notice) : Bool := allTo ns.length (fun k => !badNotice ns k) && decide ((ns.length : Int) ≤ 10)
theorem areNotices_way {ns : List Notice} (h : areNotices ns = true) {k : Nat} (hk : k < ns.length) : (nth ns k).start ≤ (nth ns k).stop := by
  simp only [areNotices, Bool.and_eq_true, allTo_iff] at h
  have h1 := h.1 k hk
  simp only [badNotice, Bool.not_eq_true', Bool.or_eq_false_iff, Bool.not_eq_false'] at h1
  exact noticeOk_way h1.1
theorem l22Good_spec {w : World} {A : Option Addr} {c : Nat} {ns : List Notice} (hs : Sl w 7 A ns.length c (ns.flatMap Notice.enc)) :
    Calls Try.prog 45 #[.slice A ns.length c] w (RetB w (.bool (areNotices ns))) := by
  have hmx := Sl.lenle hs
  refine calls_of_run (vs := [_]) (L := [(0, _)]) (n := 37) (F := []) (H := []) Try.func45 rfl rfl rfl rfl (HOk.start _) ?_
  refine Run.seq ?_
  refine Run.quiet (by intro h; cases h) ?_
  refine QOps.st rfl rfl (Yv.assign rfl).yl ?_
  refine QOps.nil ?_
  refine Run.seq ?_
  refine Run.seq ?_
  refine Run.quiet (by intro h; cases h) ?_
  refine QOps.st rfl rfl (Yv.assign rfl).yl ?_
  refine QOps.nil ?_
  refine Run.block ?_
  refine Run.loop (S := Nat) (fun s => match s with | k => k ≤ ns.length ∧ ∀ i, i < k → badNotice ns i = false) (fun s => match s with | k => [(0, .slice A ns.length c), (3, .int .i64 (k : Int))]) (fun s => match s with | k => []) (fun s => match s with | k => ns.length - k) 0 ?_ (SubE.cons rfl (SubE.cons rfl (SubE.nil _))) (List.Sublist.refl _) ?_
  · exact ⟨by omega, fun i hi => by omega⟩
  · rintro k ⟨hk, hall⟩
    show Run _ _ _ _ _ [(0, .slice A ns.length c), (3, .int .i64 (k : Int))] [] _
    refine Run.seq ?_
    refine Run.seq ?_
    refine Run.quiet (by intro h; cases h) ?_
    refine QOps.st rfl rfl (Yv.move rfl).yl ?_
    refine QOps.st rfl rfl (Yv.move rfl).yl ?_
    refine QOps.st rfl rfl (Yv.lenS el25s rfl).yl ?_
    refine QOps.st rfl rfl (Yv.lss rfl rfl).yl ?_
    refine QOps.nil ?_
    refine Run.cond rfl (fun hc1 => ?_) (fun hc1 => ?_)
    · try replace hc1 := of_decide_eq_true hc1
      refine Run.skip ?_
      refine Run.seq ?_
      refine Run.block ?_
      refine Run.seq ?_
      refine Run.quiet (fun _ => ⟨by kernel_rfl, by kernel_rfl⟩) ?_
      refine QOps.st rfl rfl (Yv.move rfl).yl ?_
      refine QOps.st rfl rfl (Yv.move rfl).yl ?_
      refine QOps.st rfl rfl (Yv.indexAddr k el25 rfl rfl rfl (Rd.arg hs) (by omega)).yl ?_
      refine QOps.st rfl rfl (Yv.loadEs lay59 rfl Notice.len (Rd.arg hs) (by first | omega | (simp; omega)) (by decide)).yl ?_
      refine QOps.st rfl rfl (Yl.call callable72 (.cons rfl (.nil)) (fun w' hw' => l22One_spec)) ?_
      refine QOps.st rfl rfl (Yv.not rfl).yl ?_
      refine QOps.st rfl rfl (Yv.move rfl).yl ?_
      refine' QOps.or [_, _, _, _, _, _, _, _, _, _, _, _, _, _, _, _] _ (.tmp 32) rfl rfl rfl rfl rfl rfl (fun hg1 => ?_) ?_
      rotate_left
      · try replace hg1 := of_decide_eq_false hg1
        refine QOps.st rfl rfl (Yv.move rfl).yl ?_
        refine QOps.st rfl rfl (Yv.gtr rfl rfl).yl ?_
        refine QOps.st rfl rfl (Yv.move rfl).yl ?_
        refine' QOps.and [_, _, _, _, _, _, _, _, _, _, _, _] _ (.tmp 31) rfl rfl rfl rfl rfl rfl (fun hg2 => ?_) ?_
        rotate_left
        · try replace hg2 := of_decide_eq_true hg2
          refine QOps.st rfl rfl (Yv.move rfl).yl ?_
          refine QOps.st rfl rfl (Yv.move rfl).yl ?_
          refine QOps.st rfl rfl (Yv.sub rfl rfl (by omega)).yl ?_
          refine QOps.st rfl rfl (Yv.indexAddr (k - 1) el25 rfl rfl (by omega) (Rd.arg hs) (by omega)).yl ?_
          refine QOps.st rfl rfl (Yv.fieldAddr fld59_0 rfl).yl ?_
          refine QOps.st rfl rfl (Yv.loadF lay3 rfl Notice.len (Rd.arg hs) (by first | omega | (simp; omega)) (by decide) rfl).yl ?_
          refine QOps.st rfl rfl (Yv.move rfl).yl ?_
          refine QOps.st rfl rfl (Yv.move rfl).yl ?_
          refine QOps.st rfl rfl (Yv.indexAddr k el25 rfl rfl rfl (Rd.arg hs) (by omega)).yl ?_
          refine QOps.st rfl rfl (Yv.fieldAddr fld59_0 rfl).yl ?_
          refine QOps.st rfl rfl (Yv.loadF lay3 rfl Notice.len (Rd.arg hs) (by first | omega | (simp; omega)) (by decide) rfl).yl ?_
          refine QOps.st rfl rfl (Yv.geq rfl rfl).yl ?_
          exact QOps.nil rfl
        exact QOps.nil rfl
      refine QOps.nil ?_
      refine Run.cond rfl (fun hc2 => ?_) (fun hc2 => ?_)
      · try replace hc2 := of_decide_eq_true hc2
        refine Run.seq ?_
        refine Run.quiet (by intro h; cases h) ?_
        refine QOps.st rfl rfl (Yv.assign rfl).yl ?_
        refine QOps.nil ?_
        refine Run.ret ?_
        refine retQ.of (.inr rfl) rfl (.tmp rfl .nil) (fun w' hw' => ?_)
        refine ⟨?_, hw'.bel.below⟩
        refine retB_eq ?_
        unfold areNotices
        rw [allTo_false (i := k) (by omega) (by show (!badNotice ns k) = false; rw [show badNotice ns k = true from hc2]; rfl)]; rfl
      · try replace hc2 := of_decide_eq_false hc2
        refine Run.skip ?_
        refine Run.quiet (by intro h; cases h) ?_
        refine QOps.st rfl rfl (Yv.move rfl).yl ?_
        refine QOps.st rfl rfl (Yv.succN rfl rfl (by omega)).yl ?_
        refine QOps.st rfl rfl (Yv.assign rfl).yl ?_
        refine QOps.nil ?_
        refine ⟨k + 1, ?_, ?_, (SubE.cons rfl (SubE.cons rfl (SubE.nil _))), (List.Sublist.refl _)⟩
        · exact ⟨by omega, all_succ hall hc2⟩
        · first | omega | (dsimp only; omega)
    · try replace hc1 := of_decide_eq_false hc1
      refine Run.exit ?_
      refine Run.seq ?_
      refine Run.quiet (by intro h; cases h) ?_
      refine QOps.st rfl rfl (Yv.move rfl).yl ?_
      refine QOps.st rfl rfl (Yv.lenS el25s rfl).yl ?_
      refine QOps.st rfl rfl (Yv.leq rfl rfl).yl ?_
      refine QOps.st rfl rfl (Yv.assign rfl).yl ?_
      refine QOps.nil ?_
      refine Run.ret ?_
      refine retQ.of (.inr rfl) rfl (.tmp rfl .nil) (fun w' hw' => ?_)
      refine ⟨?_, hw'.bel.below⟩
      refine retB_eq ?_
      obtain rfl : k = ns.length := by omega
      unfold areNotices
      rw [allTo_iff.2 (fun i hi => by simpa using hall i hi)]; rfl

theorem AreNotices_spec {w : World} {A : Option Addr} {c : Nat} {ns : List Notice} (hs : Sl w 7 A ns.length c (ns.flatMap Notice.enc)) :
    Calls Try.prog 15 #[.slice A ns.length c] w (RetB w (.bool (areNotices ns))) := by
  have hmx := Sl.lenle hs
  refine calls_of_run (vs := [_]) (L := [(0, _)]) (n := 34) (F := []) (H := []) Try.func15 rfl rfl rfl rfl (HOk.start _) ?_
  refine Run.seq ?_
  refine Run.quiet (by intro h; cases h) ?_
  refine QOps.st rfl rfl (Yv.assign rfl).yl ?_
  refine QOps.nil ?_
  refine Run.seq ?_
  refine Run.seq ?_
  refine Run.quiet (by intro h; cases h) ?_
  refine QOps.st rfl rfl (Yv.move rfl).yl ?_
  refine QOps.st rfl rfl (Yv.lenS el25s rfl).yl ?_
  refine QOps.st rfl rfl (Yv.move rfl).yl ?_
  refine QOps.nil ?_
  refine Run.block ?_
  refine Run.loop (S := Nat) (fun s => match s with | k => k ≤ ns.length ∧ ∀ i, i < k → badNotice ns i = false) (fun s => match s with | k => [(0, .slice A ns.length c), (5, .slice A ns.length c), (6, .int .i64 (ns.length : Int)), (7, .int .i64 (k : Int))]) (fun s => match s with | k => []) (fun s => match s with | k => ns.length - k) 0 ?_ (SubE.cons rfl (SubE.cons rfl (SubE.cons rfl (SubE.cons rfl (SubE.nil _))))) (List.Sublist.refl _) ?_
  · exact ⟨by omega, fun i hi => by omega⟩
  · rintro k ⟨hk, hall⟩
    show Run _ _ _ _ _ [(0, .slice A ns.length c), (5, .slice A ns.length c), (6, .int .i64 (ns.length : Int)), (7, .int .i64 (k : Int))] [] _
    refine Run.seq ?_
    refine Run.quiet (by intro h; cases h) ?_
    refine QOps.st rfl rfl (Yv.lss rfl rfl).yl ?_
    refine QOps.nil ?_
    refine Run.seq ?_
    refine Run.cond rfl (fun hc1 => ?_) (fun hc1 => ?_)
    · try replace hc1 := of_decide_eq_true hc1
      refine Run.skip ?_
      refine Run.seq ?_
      refine Run.block ?_
      refine Run.seq ?_
      refine Run.ops ?_
      refine SOps.st rfl rfl (Yv.move rfl).yl ?_
      refine SOps.st rfl rfl (Yv.indexAddr k el25 rfl rfl rfl (Rd.arg hs) (by omega)).yl ?_
      refine SOps.st rfl rfl (Yv.loadEs lay59 rfl Notice.len (Rd.arg hs) (by first | omega | (simp; omega)) (by decide)).yl ?_
      refine SOps.one rfl (One.alloc rfl zero59 (fun b1 => ?_))
      refine SOps.st rfl rfl (Yv.assign rfl).yl ?_
      refine SOps.one rfl (One.store (i := 0) (off := 0) (vs := [_, _, _, _, _, _, _]) (cs' := [_, _, _, _, _, _, _]) (H' := [_]) lay59 rfl rfl rfl rfl rfl rfl rfl rfl rfl rfl ?_)
      refine SOps.nil ?_
      refine Run.seq ?_
      refine Run.quiet (fun _ => ⟨by kernel_rfl, by kernel_rfl⟩) ?_
      refine QOps.st rfl rfl (Yv.loadBs (i := 0) lay59 rfl rfl rfl rfl).yl ?_
      refine QOps.st rfl rfl (Yl.call callable47 (.cons rfl (.nil)) (fun w' hw' => isNotice_spec)) ?_
      refine QOps.st rfl rfl (Yv.not rfl).yl ?_
      refine QOps.st rfl rfl (Yv.move rfl).yl ?_
      refine' QOps.or [_, _, _, _, _, _, _, _, _, _, _, _, _] _ (.tmp 28) rfl rfl rfl rfl rfl rfl (fun hg1 => ?_) ?_
      rotate_left
      · try replace hg1 := of_decide_eq_false hg1
        refine QOps.st rfl rfl (Yv.move rfl).yl ?_
        refine QOps.st rfl rfl (Yv.gtr rfl rfl).yl ?_
        refine QOps.st rfl rfl (Yv.move rfl).yl ?_
        refine' QOps.and [_, _, _, _, _, _, _, _, _] _ (.tmp 27) rfl rfl rfl rfl rfl rfl (fun hg2 => ?_) ?_
        rotate_left
        · try replace hg2 := of_decide_eq_true hg2
          refine QOps.st rfl rfl (Yv.move rfl).yl ?_
          refine QOps.st rfl rfl (Yv.move rfl).yl ?_
          refine QOps.st rfl rfl (Yv.sub rfl rfl (by omega)).yl ?_
          refine QOps.st rfl rfl (Yv.indexAddr (k - 1) el25 rfl rfl (by omega) (Rd.arg hs) (by omega)).yl ?_
          refine QOps.st rfl rfl (Yv.fieldAddr fld59_0 rfl).yl ?_
          refine QOps.st rfl rfl (Yv.loadF lay3 rfl Notice.len (Rd.arg hs) (by first | omega | (simp; omega)) (by decide) rfl).yl ?_
          refine QOps.st rfl rfl (Yv.fieldAddr fld59_0 rfl).yl ?_
          refine QOps.st rfl rfl (Yv.loadB (i := 0) lay3 rfl rfl rfl rfl).yl ?_
          refine QOps.st rfl rfl (Yv.geq rfl rfl).yl ?_
          exact QOps.nil rfl
        exact QOps.nil rfl
      refine QOps.nil ?_
      refine Run.cond rfl (fun hc2 => ?_) (fun hc2 => ?_)
      · try replace hc2 := of_decide_eq_true hc2
        refine Run.seq ?_
        refine Run.quiet (by intro h; cases h) ?_
        refine QOps.st rfl rfl (Yv.assign rfl).yl ?_
        refine QOps.nil ?_
        refine Run.ret ?_
        refine retQ.of (.inr rfl) rfl (.tmp rfl .nil) (fun w' hw' => ?_)
        refine ⟨?_, hw'.bel.below⟩
        refine retB_eq ?_
        unfold areNotices
        rw [allTo_false (i := k) (by omega) (by show (!badNotice ns k) = false; rw [show badNotice ns k = true from hc2]; rfl)]; rfl
      · try replace hc2 := of_decide_eq_false hc2
        refine Run.skip ?_
        refine Run.quiet (by intro h; cases h) ?_
        refine QOps.st rfl rfl (Yv.succN rfl rfl (by omega)).yl ?_
        refine QOps.st rfl rfl (Yv.move rfl).yl ?_
        refine QOps.nil ?_
        refine ⟨k + 1, ?_, ?_, (SubE.cons rfl (SubE.cons rfl (SubE.cons rfl (SubE.cons rfl (SubE.nil _))))), (List.Sublist.cons _ (List.Sublist.refl _))⟩
        · exact ⟨by omega, all_succ hall hc2⟩
        · first | omega | (dsimp only; omega)
    · try replace hc1 := of_decide_eq_false hc1
      refine Run.exit ?_
      refine Run.seq ?_
      refine Run.quiet (by intro h; cases h) ?_
      refine QOps.st rfl rfl (Yv.move rfl).yl ?_
      refine QOps.st rfl rfl (Yv.lenS el25s rfl).yl ?_
      refine QOps.st rfl rfl (Yv.leq rfl rfl).yl ?_
      refine QOps.st rfl rfl (Yv.assign rfl).yl ?_
      refine QOps.nil ?_
      refine Run.ret ?_
      refine retQ.of (.inr rfl) rfl (.tmp rfl .nil) (fun w' hw' => ?_)
      refine ⟨?_, hw'.bel.below⟩
      refine retB_eq ?_
      obtain rfl : k = ns.length := by omega
      unfold areNotices
      rw [allTo_iff.2 (fun i hi => by simpa using hall i hi)]; rfl

theorem sAreNotices_spec {w : World} {A : Option Addr} {c : Nat} {ns : List Notice} (hs : Sl w 7 A ns.length c (ns.flatMap Notice.enc)) : Calls Try.prog 13 #[.slice A ns.length c] w (RetB w (.bool (areNotices ns))) := by
  refine calls_of_run (vs := [_]) (L := [(0, _)]) (n := 5) (F := []) (H := []) Try.func13 rfl rfl rfl rfl (HOk.start _) ?_
  refine Run.seq ?_
  refine Run.quiet (by intro h; cases h) ?_
  refine QOps.st rfl rfl (Yv.assign rfl).yl ?_
  refine QOps.nil ?_
  refine Run.seq ?_
  refine Run.quiet (by intro h; cases h) ?_
  refine QOps.st rfl rfl (Yv.move rfl).yl ?_
  refine QOps.st rfl rfl (Yl.call callable45 (.cons rfl (.nil)) (fun w' hw' => l22Good_spec ((Rd.arg hs) w' hw'))) ?_
  refine QOps.st rfl rfl (Yv.assign rfl).yl ?_
  refine QOps.nil ?_
  refine Run.ret ?_
  refine retQ.of (.inr rfl) rfl (.tmp rfl .nil) (fun w' hw' => ?_)
  refine ⟨?_, hw'.bel.below⟩
  exact rfl

theorem FnExactAreNotices_spec {w : World} {A : Option Addr} {c : Nat} {ns : List Notice}  (hs : Sl w 7 A ns.length c (ns.flatMap Notice.enc)) (hb : 56 * ns.length ≤ 281474976710656) :
    Calls Try.prog 3 #[.slice A ns.length c] w (RetB w (.bool true)) := by
  refine calls_of_run (vs := [_]) (L := [(0, _)]) (n := 27) (F := []) (H := []) Try.func3 rfl rfl rfl rfl (HOk.start _) ?_
  refine Run.seq ?_
  refine Run.quiet (by intro h; cases h) ?_
  refine QOps.st rfl rfl (Yv.assign rfl).yl ?_
  refine QOps.nil ?_
  refine Run.seq ?_
  refine Run.quiet (by intro h; cases h) ?_
  refine QOps.st rfl rfl (Yv.assign rfl).yl ?_
  refine QOps.nil ?_
  refine Run.seq ?_
  refine Run.quiet (by intro h; cases h) ?_
  refine QOps.st rfl rfl (Yv.move rfl).yl ?_
  refine QOps.st rfl rfl (Yv.move rfl).yl ?_
  refine QOps.st rfl rfl (Yl.call callable12 (.cons rfl (.cons rfl (.nil))) (fun w' hw' => szNoticeS_spec (by omega) (by omega) (by omega))) ?_
  refine QOps.st rfl rfl (Yv.assign rfl).yl ?_
  refine QOps.nil ?_
  refine Run.seq ?_
  refine Run.seq ?_
  refine Run.quiet (by intro h; cases h) ?_
  refine QOps.st rfl rfl (Yv.move rfl).yl ?_
  refine QOps.st rfl rfl (Yv.lss rfl rfl).yl ?_
  refine QOps.nil ?_
  refine Run.cond rfl (fun hc1 => ?_) (fun hc1 => ?_)
  · try replace hc1 := of_decide_eq_true hc1
    refine Run.seq ?_
    refine Run.quiet (by intro h; cases h) ?_
    refine QOps.st rfl rfl (Yv.assign rfl).yl ?_
    refine QOps.nil ?_
    refine Run.ret ?_
    refine retQ.of (.inr rfl) rfl (.tmp rfl .nil) (fun w' hw' => ?_)
    refine ⟨?_, hw'.bel.below⟩
    exact rfl
  · try replace hc1 := of_decide_eq_false hc1
    refine Run.skip ?_
    refine Run.seq ?_
    refine Run.ops ?_
    refine SOps.st rfl rfl (Yv.move rfl).yl ?_
    refine SOps.one rfl (One.callRow rfl callable14 (.cons rfl (.nil)) (fun w' hw' => toNoticeS_spec ((Rd.arg hs) w' hw') (by omega)) (fun A1 c1 => ?_))
    refine SOps.st rfl rfl (Yl.call callable13 (.cons rfl (.nil)) (fun w' hw' => sAreNotices_spec ((Rd.row (i := 0) rfl) w' hw'))) ?_
    refine SOps.st rfl rfl (Yv.assign rfl).yl ?_
    refine SOps.nil ?_
    refine Run.seq ?_
    refine Run.ops ?_
    refine SOps.st rfl rfl (Yv.move rfl).yl ?_
    refine SOps.one rfl (One.callRow rfl callable14 (.cons rfl (.nil)) (fun w' hw' => toNoticeS_spec ((Rd.arg hs) w' hw') (by omega)) (fun A2 c2 => ?_))
    refine SOps.st rfl rfl (Yv.assign rfl).yl ?_
    refine SOps.nil ?_
    refine Run.seq ?_
    refine Run.quiet (by intro h; cases h) ?_
    refine QOps.st rfl rfl (Yv.move rfl).yl ?_
    refine QOps.st rfl rfl (Yl.call callable15 (.cons rfl (.nil)) (fun w' hw' => AreNotices_spec ((Rd.row (i := 0) rfl) w' hw'))) ?_
    refine QOps.st rfl rfl (Yv.assign rfl).yl ?_
    refine QOps.nil ?_
    refine Run.seq ?_
    refine Run.seq ?_
    refine Run.quiet (by intro h; cases h) ?_
    refine QOps.st rfl rfl (Yv.move rfl).yl ?_
    refine QOps.st rfl rfl (Yv.move rfl).yl ?_
    refine QOps.st rfl rfl (Yv.neB bool4 rfl rfl).yl ?_
    refine QOps.nil ?_
    refine Run.cond rfl (fun hc2 => ?_) (fun hc2 => ?_)
    · exfalso
      simp at hc2
    · try replace hc2 := of_decide_eq_false hc2
      refine Run.skip ?_
      refine Run.seq ?_
      refine Run.seq ?_
      refine Run.ops ?_
      refine SOps.st rfl rfl (Yv.move rfl).yl ?_
      refine SOps.st rfl rfl (Yv.move rfl).yl ?_
      refine SOps.one rfl (One.callRow rfl callable14 (.cons rfl (.nil)) (fun w' hw' => toNoticeS_spec ((Rd.arg hs) w' hw') (by omega)) (fun A3 c3 => ?_))
      refine SOps.st rfl rfl (Yl.call callable16 (.cons rfl (.cons rfl (.nil))) (fun w' hw' => eqNoticeS_spec ((Rd.row (i := 1) rfl) w' hw') ((Rd.row (i := 0) rfl) w' hw'))) ?_
      refine SOps.st rfl rfl (Yv.not rfl).yl ?_
      refine SOps.nil ?_
      refine Run.cond rfl (fun hc3 => ?_) (fun hc3 => ?_)
      · exfalso
        simp at hc3
      · try replace hc3 := of_decide_eq_false hc3
        refine Run.skip ?_
        refine Run.seq ?_
        refine Run.quiet (by intro h; cases h) ?_
        refine QOps.st rfl rfl (Yv.assign rfl).yl ?_
        refine QOps.nil ?_
        refine Run.ret ?_
        refine retQ.of (.inr rfl) rfl (.tmp rfl .nil) (fun w' hw' => ?_)
        refine ⟨?_, hw'.bel.below⟩
        exact rfl

end Go.Proofs.Ytjabeiolgghfdaa
