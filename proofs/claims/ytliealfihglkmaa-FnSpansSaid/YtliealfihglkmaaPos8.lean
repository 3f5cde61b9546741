/- Fixes: the law of the spans. Conditions: none. -/
import Derived.Test.YtliealfihglkmaaPos7
namespace Go.Proofs.Ytliealfihglkmaa
open Go.RowKit
set_option maxRecDepth 100000
def isIvt (i : Interval) : Bool := decide (0 ≤ i.start) && (decide (i.start ≤ i.stop) && decide (i.stop ≤ 9999))
theorem IsInterval_spec {w : World} {i : Interval} : Calls Try.prog 44 #[.agg i.enc.toArray] w (RetB w (.bool (isIvt i))) := by
  refine calls_of_run (vs := [_]) (L := [(0, _)]) (n := 18) (F := []) (H := []) Try.func44 rfl rfl rfl rfl (HOk.start _) ?_
  refine Run.seq ?_
  refine Run.ops ?_
  refine SOps.one rfl (One.box (cs := [_, _]) rfl rfl rfl (fun b1 => ?_))
  refine SOps.st rfl rfl (Yv.assign rfl).yl ?_
  refine SOps.nil ?_
  refine Run.seq ?_
  refine Run.quiet (by intro h; cases h) ?_
  refine QOps.st rfl rfl (Yv.fieldAddr fld54_0 rfl).yl ?_
  refine QOps.st rfl rfl (Yv.loadB (i := 0) lay3 rfl rfl rfl rfl).yl ?_
  refine QOps.st rfl rfl (Yv.leq rfl rfl).yl ?_
  refine QOps.st rfl rfl (Yv.move rfl).yl ?_
  refine' QOps.and [_, _, _, _, _] _ (.tmp 11) rfl rfl rfl rfl rfl rfl (fun hg1 => ?_) ?_
  rotate_left
  · try replace hg1 := of_decide_eq_true hg1
    refine QOps.st rfl rfl (Yv.fieldAddr fld54_0 rfl).yl ?_
    refine QOps.st rfl rfl (Yv.loadB (i := 0) lay3 rfl rfl rfl rfl).yl ?_
    refine QOps.st rfl rfl (Yv.fieldAddr fld54_1 rfl).yl ?_
    refine QOps.st rfl rfl (Yv.loadB (i := 0) lay3 rfl rfl rfl rfl).yl ?_
    refine QOps.st rfl rfl (Yv.leq rfl rfl).yl ?_
    exact QOps.nil rfl
  refine QOps.st rfl rfl (Yv.move rfl).yl ?_
  refine' QOps.and [_, _, _] _ (.tmp 16) rfl rfl rfl rfl rfl rfl (fun hg2 => ?_) ?_
  rotate_left
  · try replace hg2 := of_decide_eq_true hg2
    refine QOps.st rfl rfl (Yv.fieldAddr fld54_1 rfl).yl ?_
    refine QOps.st rfl rfl (Yv.loadB (i := 0) lay3 rfl rfl rfl rfl).yl ?_
    refine QOps.st rfl rfl (Yv.leq rfl rfl).yl ?_
    exact QOps.nil rfl
  refine QOps.st rfl rfl (Yv.assign rfl).yl ?_
  refine QOps.nil ?_
  refine Run.ret ?_
  refine retQ.of (.inr rfl) rfl (.tmp rfl .nil) (fun w' hw' => ?_)
  refine ⟨?_, hw'.bel.below⟩
  refine retB_eq ?_
  unfold isIvt; cases decide (0 ≤ i.start) <;> cases decide (i.start ≤ i.stop) <;> simp
theorem may_span {fs : List Fix} {p m pl : Int} (h : (mayBeAtOf fs p m pl).2 = true) : (mayBeAtOf fs p m pl).1 = ((spanOf fs p m).2 && (decide ((spanOf fs p m).1.low ≤ pl) && decide (pl ≤ (spanOf fs p m).1.high))) := by
  unfold mayBeAtOf at h ⊢
  split at h
  · rename_i h1
    rw [if_pos h1]
    simp only [Bool.and_eq_true] at h1
    unfold spanOf
    rw [if_pos (by simp only [Bool.and_eq_true]; exact h1.1)]
    split
    · simp [inB]
    · rename_i h2
      simp [inB]
      omega
  · cases h
theorem pass_parts {fs : List Fix} {p pl m0 : Int} : ∀ {n : Nat}, (passTo fs p pl m0 n).2 = true →
    inB pl (lowTo fs p (passTo fs p pl m0 n).1.start fs.length) (highTo fs p (passTo fs p pl m0 n).1.start fs.length) = true ∧ inB pl (lowTo fs p (passTo fs p pl m0 n).1.stop fs.length) (highTo fs p (passTo fs p pl m0 n).1.stop fs.length) = true ∧
    m0 ≤ (passTo fs p pl m0 n).1.start ∧ (passTo fs p pl m0 n).1.start ≤ (passTo fs p pl m0 n).1.stop ∧ (passTo fs p pl m0 n).1.stop < m0 + (n : Int)
  | 0, h => by simp [passTo] at h
  | n + 1, h => by
    have ih := pass_parts (fs := fs) (p := p) (pl := pl) (m0 := m0) (n := n)
    rw [passTo] at h ⊢
    split at h
    · rename_i hin
      rw [if_pos hin]
      dsimp only
      cases h2 : (passTo fs p pl m0 n).2 with
      | true =>
        have ih := ih h2
        rw [if_pos rfl]
        exact ⟨ih.1, hin, ih.2.2.1, by omega, by omega⟩
      | false =>
        rw [if_neg (by simp)]
        exact ⟨hin, hin, by omega, by omega, by omega⟩
    · rename_i hin
      rw [if_neg hin]
      have ih := ih h
      exact ⟨ih.1, ih.2.1, ih.2.2.1, ih.2.2.2.1, by omega⟩
structure Passed (fs : List Fix) (p pl : Int) : Prop where
  first_ : mayBeAtOf fs p (passOf fs p pl).1.start pl = (true, true)
  last_ : mayBeAtOf fs p (passOf fs p pl).1.stop pl = (true, true)
  from_ : (nth fs 0).minute ≤ (passOf fs p pl).1.start
  to_ : (passOf fs p pl).1.stop ≤ (nth fs (fs.length - 1)).minute
  ivt : isIvt (passOf fs p pl).1 = true
  len : 1 ≤ fs.length
theorem passed {fs : List Fix} {p pl : Int} (h : (passOf fs p pl).2 = true) : Passed fs p pl := by
  unfold passOf at h
  split at h
  · rename_i h1
    have e : passOf fs p pl = passTo fs p pl (nth fs 0).minute ((nth fs (fs.length - 1)).minute + 1 - (nth fs 0).minute).toNat := by unfold passOf; rw [if_pos h1]
    have hp := pass_parts h
    rw [← e] at hp
    simp only [Bool.and_eq_true] at h1
    have hl := areFixes_ok h1.1.1
    have f0 := areFixes_fix h1.1.1 (k := 0) (by omega)
    have f1 := areFixes_fix h1.1.1 (k := fs.length - 1) (by omega)
    have hm : ∀ m : Int, 0 ≤ m → m ≤ 9999 → inB pl (lowTo fs p m fs.length) (highTo fs p m fs.length) = true → mayBeAtOf fs p m pl = (true, true) := fun m h2 h3 h4 => by
      unfold mayBeAtOf
      rw [if_pos (by rw [h1.1.1, h1.1.2, h1.2, inB_iff.2 ⟨h2, h3⟩]; rfl), h4]
    refine ⟨hm _ (by omega) (by omega) hp.1, hm _ (by omega) (by omega) hp.2.1, hp.2.2.1, by omega, ?_, hl.1⟩
    unfold isIvt
    rw [decide_eq_true (by omega), decide_eq_true (by omega), decide_eq_true (by omega)]
    rfl
  · cases h
structure Met (fs gs : List Fix) (p m : Int) : Prop where
  is_ : meetOf fs gs p m = (meetIs fs gs p m, true)
  back : meetOf gs fs p m = (meetIs fs gs p m, true)
  self : meetOf fs fs p m = ((spanOf fs p m).2, true)
  both : meetIs fs gs p m = true → (spanOf fs p m).2 = true
theorem met {fs gs : List Fix} {p m : Int} (h : (meetOf fs gs p m).2 = true) : Met fs gs p m := by
  unfold meetOf at h
  split at h
  · rename_i h1
    have h2 := h1
    simp only [meetAsked, Bool.and_eq_true] at h2
    obtain ⟨⟨⟨ha, hb⟩, hp⟩, hm⟩ := h2
    have hs : (spanOf fs p m).2 = decide (lowTo fs p m fs.length ≤ highTo fs p m fs.length) := by
      unfold spanOf
      rw [if_pos (by rw [ha, hp, hm]; rfl)]
      split
      · rename_i h3; rw [decide_eq_true h3]
      · rename_i h3; rw [decide_eq_false h3]
    refine ⟨by unfold meetOf; rw [if_pos h1], ?_, ?_, fun h3 => ?_⟩
    · unfold meetOf
      rw [if_pos (by unfold meetAsked; rw [ha, hb, hp, hm]; rfl)]
      unfold meetIs
      rw [Int.max_comm, Int.min_comm]
    · unfold meetOf
      rw [if_pos (by unfold meetAsked; rw [ha, hp, hm]; rfl), hs]
      unfold meetIs
      rw [Int.max_self, Int.min_self]
    · rw [hs]
      have := of_decide_eq_true h3
      exact decide_eq_true (by omega)
  · cases h
theorem FnSpans_spec {w : World} {A : Option Addr} {c : Nat} {xs : List UInt8} (hs : Sl w 1 A xs.length c (xs.flatMap byteC)) (_hb : 1 * xs.length ≤ 281474976710656) : Calls Try.prog 12 #[.slice A xs.length c] w (RetB w (.bool true)) := by
  refine calls_of_run (vs := [_]) (L := [(0, _)]) (n := 292) (F := []) (H := []) Try.func12 rfl rfl rfl rfl (HOk.start _) ?_
  refine Run.seq ?_
  refine Run.quiet (by intro h; cases h) ?_
  refine QOps.st rfl rfl (Yv.assign rfl).yl ?_
  refine QOps.nil ?_
  refine Run.seq ?_
  refine Run.seq ?_
  refine Run.quiet (by intro h; cases h) ?_
  refine QOps.st rfl rfl (Yv.move rfl).yl ?_
  refine QOps.st rfl rfl (Yl.call callable40 (.cons rfl (.nil)) (fun w' hw' => vBig_spec)) ?_
  refine QOps.nil ?_
  refine Run.cond rfl (fun hc1 => ?_) (fun hc1 => ?_)
  · try replace hc1 := of_decide_eq_true hc1
    refine Run.seq ?_
    refine Run.quiet (by intro h; cases h) ?_
    refine QOps.st rfl rfl (Yv.assign rfl).yl ?_
    refine QOps.nil ?_
    refine Run.ret ?_
    refine retQ.of (.inr rfl) rfl (.tmp rfl .nil) (fun w' hw' => ?_)
    refine ⟨?_, hw'.bel.below⟩
    exact rfl
  · try replace hc1 := of_decide_eq_false hc1
    refine Run.skip ?_
    refine Run.seq ?_
    refine Run.ops ?_
    refine SOps.st rfl rfl (Yv.move rfl).yl ?_
    refine SOps.one rfl (One.callER rfl callable41 (.cons rfl (.nil)) (fun w' hw' => DrawSpanAt_spec ((Rd.arg hs) w' hw')) ?_)
    rintro ⟨ya1, yb1, yd1⟩ Aq1 cq1 hx1
    dsimp only at *
    refine SOps.st rfl rfl (Yv.move rfl).yl ?_
    refine SOps.st rfl rfl (Yv.extract rfl rfl).yl ?_
    refine SOps.st rfl rfl (Yv.extract rfl rfl).yl ?_
    refine SOps.st rfl rfl (Yv.extract rfl rfl).yl ?_
    refine SOps.st rfl rfl (Yv.assign rfl).yl ?_
    refine SOps.st rfl rfl (Yv.assign rfl).yl ?_
    refine SOps.st rfl rfl (Yv.assign rfl).yl ?_
    refine SOps.nil ?_
    refine Run.seq ?_
    refine Run.ops ?_
    refine SOps.st rfl rfl (Yv.move rfl).yl ?_
    refine SOps.st rfl rfl (Yv.move rfl).yl ?_
    refine SOps.st rfl rfl (Yv.move rfl).yl ?_
    refine SOps.st rfl rfl (Yl.call callable26 (.cons rfl (.cons rfl (.cons rfl (.nil)))) (fun w' hw' => SpanAt_spec ((Rd.row (i := 0) rfl) w' hw'))) ?_
    refine SOps.st rfl rfl (Yv.move rfl).yl ?_
    refine SOps.st rfl rfl (Yv.extract rfl rfl).yl ?_
    refine SOps.st rfl rfl (Yv.extract rfl rfl).yl ?_
    refine SOps.one rfl (One.alloc rfl zero37 (fun b1 => ?_))
    refine SOps.one rfl (One.store (i := 0) (off := 0) (vs := [_, _]) (cs' := [_, _]) (H' := [_, _]) lay37 rfl rfl rfl rfl rfl rfl rfl rfl rfl rfl ?_)
    refine SOps.st rfl rfl (Yv.assign rfl).yl ?_
    refine SOps.nil ?_
    refine Run.seq ?_
    refine Run.seq ?_
    refine Run.ops ?_
    refine SOps.st rfl rfl (Yv.move rfl).yl ?_
    refine SOps.st rfl rfl (Yv.move rfl).yl ?_
    refine SOps.st rfl rfl (Yv.move rfl).yl ?_
    refine SOps.st rfl rfl (Yl.call callable25 (.cons rfl (.cons rfl (.cons rfl (.nil)))) (fun w' hw' => sSpanAt_spec ((Rd.row (i := 1) rfl) w' hw'))) ?_
    refine SOps.st rfl rfl (Yv.move rfl).yl ?_
    refine SOps.st rfl rfl (Yv.extract rfl rfl).yl ?_
    refine SOps.st rfl rfl (Yv.extract rfl rfl).yl ?_
    refine SOps.one rfl (One.alloc rfl zero37 (fun b2 => ?_))
    refine SOps.one rfl (One.store (i := 0) (off := 0) (vs := [_, _]) (cs' := [_, _]) (H' := [_, _, _]) lay37 rfl rfl rfl rfl rfl rfl rfl rfl rfl rfl ?_)
    refine SOps.st rfl rfl (Yv.assign rfl).yl ?_
    refine SOps.nil ?_
    refine Run.seq ?_
    refine Run.quiet (by intro h; cases h) ?_
    refine QOps.st rfl rfl (Yv.loadBs (i := 1) lay37 rfl rfl rfl rfl).yl ?_
    refine QOps.st rfl rfl (Yv.loadBs (i := 0) lay37 rfl rfl rfl rfl).yl ?_
    refine QOps.st rfl rfl (Yv.neS scal37 rfl rfl rfl rfl).yl ?_
    refine QOps.st rfl rfl (Yv.move rfl).yl ?_
    refine' QOps.or [_, _, _] _ (.tmp 73) rfl rfl rfl rfl rfl rfl (fun hg1 => ?_) ?_
    rotate_left
    · try replace hg1 := of_decide_eq_false hg1
      refine QOps.st rfl rfl (Yv.move rfl).yl ?_
      refine QOps.st rfl rfl (Yv.move rfl).yl ?_
      refine QOps.st rfl rfl (Yv.neB bool4 rfl rfl).yl ?_
      exact QOps.nil rfl
    refine QOps.nil ?_
    refine Run.cond rfl (fun hc2 => ?_) (fun hc2 => ?_)
    · exfalso
      simp [eqC] at hc2
    · try replace hc2 := of_decide_eq_false hc2
      refine Run.skip ?_
      refine Run.seq ?_
      refine Run.ops ?_
      refine SOps.st rfl rfl (Yv.move rfl).yl ?_
      refine SOps.one rfl (One.callER rfl callable42 (.cons rfl (.nil)) (fun w' hw' => DrawMayBeAt_spec ((Rd.arg hs) w' hw')) ?_)
      rintro ⟨ya2, yb2, yd2, ye2⟩ Aq2 cq2 hx2
      dsimp only at *
      refine SOps.st rfl rfl (Yv.move rfl).yl ?_
      refine SOps.st rfl rfl (Yv.extract rfl rfl).yl ?_
      refine SOps.st rfl rfl (Yv.extract rfl rfl).yl ?_
      refine SOps.st rfl rfl (Yv.extract rfl rfl).yl ?_
      refine SOps.st rfl rfl (Yv.extract rfl rfl).yl ?_
      refine SOps.st rfl rfl (Yv.assign rfl).yl ?_
      refine SOps.st rfl rfl (Yv.assign rfl).yl ?_
      refine SOps.st rfl rfl (Yv.assign rfl).yl ?_
      refine SOps.st rfl rfl (Yv.assign rfl).yl ?_
      refine SOps.nil ?_
      refine Run.seq ?_
      refine Run.quiet (by intro h; cases h) ?_
      refine QOps.st rfl rfl (Yv.move rfl).yl ?_
      refine QOps.st rfl rfl (Yv.move rfl).yl ?_
      refine QOps.st rfl rfl (Yv.move rfl).yl ?_
      refine QOps.st rfl rfl (Yv.move rfl).yl ?_
      refine QOps.st rfl rfl (Yl.call callable24 (.cons rfl (.cons rfl (.cons rfl (.cons rfl (.nil))))) (fun w' hw' => MayBeAt_spec ((Rd.row (i := 0) rfl) w' hw'))) ?_
      refine QOps.st rfl rfl (Yv.move rfl).yl ?_
      refine QOps.st rfl rfl (Yv.extract rfl rfl).yl ?_
      refine QOps.st rfl rfl (Yv.extract rfl rfl).yl ?_
      refine QOps.st rfl rfl (Yv.assign rfl).yl ?_
      refine QOps.st rfl rfl (Yv.assign rfl).yl ?_
      refine QOps.nil ?_
      refine Run.seq ?_
      refine Run.seq ?_
      refine Run.quiet (by intro h; cases h) ?_
      refine QOps.st rfl rfl (Yv.move rfl).yl ?_
      refine QOps.st rfl rfl (Yv.move rfl).yl ?_
      refine QOps.st rfl rfl (Yv.move rfl).yl ?_
      refine QOps.st rfl rfl (Yv.move rfl).yl ?_
      refine QOps.st rfl rfl (Yl.call callable23 (.cons rfl (.cons rfl (.cons rfl (.cons rfl (.nil))))) (fun w' hw' => sMayBeAt_spec ((Rd.row (i := 0) rfl) w' hw'))) ?_
      refine QOps.st rfl rfl (Yv.move rfl).yl ?_
      refine QOps.st rfl rfl (Yv.extract rfl rfl).yl ?_
      refine QOps.st rfl rfl (Yv.extract rfl rfl).yl ?_
      refine QOps.st rfl rfl (Yv.assign rfl).yl ?_
      refine QOps.st rfl rfl (Yv.assign rfl).yl ?_
      refine QOps.nil ?_
      refine Run.seq ?_
      refine Run.quiet (by intro h; cases h) ?_
      refine QOps.st rfl rfl (Yv.move rfl).yl ?_
      refine QOps.st rfl rfl (Yv.move rfl).yl ?_
      refine QOps.st rfl rfl (Yv.neB bool4 rfl rfl).yl ?_
      refine QOps.st rfl rfl (Yv.move rfl).yl ?_
      refine' QOps.or [_, _, _] _ (.tmp 104) rfl rfl rfl rfl rfl rfl (fun hg2 => ?_) ?_
      rotate_left
      · try replace hg2 := of_decide_eq_false hg2
        refine QOps.st rfl rfl (Yv.move rfl).yl ?_
        refine QOps.st rfl rfl (Yv.move rfl).yl ?_
        refine QOps.st rfl rfl (Yv.neB bool4 rfl rfl).yl ?_
        exact QOps.nil rfl
      refine QOps.nil ?_
      refine Run.cond rfl (fun hc3 => ?_) (fun hc3 => ?_)
      · exfalso
        simp at hc3
      · try replace hc3 := of_decide_eq_false hc3
        refine Run.skip ?_
        refine Run.seq ?_
        refine Run.seq ?_
        refine Run.quiet (by intro h; cases h) ?_
        refine QOps.st rfl rfl (Yv.move rfl).yl ?_
        refine QOps.nil ?_
        refine Run.cond rfl (fun hc4 => ?_) (fun hc4 => ?_)
        · try replace hc4 := of_decide_eq_true hc4
          refine Run.seq ?_
          refine Run.ops ?_
          refine SOps.st rfl rfl (Yv.move rfl).yl ?_
          refine SOps.st rfl rfl (Yv.move rfl).yl ?_
          refine SOps.st rfl rfl (Yv.move rfl).yl ?_
          refine SOps.st rfl rfl (Yl.call callable26 (.cons rfl (.cons rfl (.cons rfl (.nil)))) (fun w' hw' => SpanAt_spec ((Rd.row (i := 0) rfl) w' hw'))) ?_
          refine SOps.st rfl rfl (Yv.move rfl).yl ?_
          refine SOps.st rfl rfl (Yv.extract rfl rfl).yl ?_
          refine SOps.st rfl rfl (Yv.extract rfl rfl).yl ?_
          refine SOps.one rfl (One.alloc rfl zero37 (fun b3 => ?_))
          refine SOps.one rfl (One.store (i := 0) (off := 0) (vs := [_, _]) (cs' := [_, _]) (H' := [_, _, _, _, _]) lay37 rfl rfl rfl rfl rfl rfl rfl rfl rfl rfl ?_)
          refine SOps.st rfl rfl (Yv.assign rfl).yl ?_
          refine SOps.nil ?_
          refine Run.seq ?_
          refine Run.quiet (by intro h; cases h) ?_
          refine QOps.st rfl rfl (Yv.move rfl).yl ?_
          refine QOps.st rfl rfl (Yv.move rfl).yl ?_
          refine QOps.st rfl rfl (Yv.move rfl).yl ?_
          refine' QOps.and [_, _, _, _] _ (.tmp 120) rfl rfl rfl rfl rfl rfl (fun hg3 => ?_) ?_
          rotate_left
          · try replace hg3 := of_decide_eq_true hg3
            refine QOps.st rfl rfl (Yv.fieldAddr fld37_0 rfl).yl ?_
            refine QOps.st rfl rfl (Yv.loadB (i := 0) lay3 rfl rfl rfl rfl).yl ?_
            refine QOps.st rfl rfl (Yv.move rfl).yl ?_
            refine QOps.st rfl rfl (Yv.leq rfl rfl).yl ?_
            exact QOps.nil rfl
          refine QOps.st rfl rfl (Yv.move rfl).yl ?_
          refine' QOps.and [_, _, _, _] _ (.tmp 126) rfl rfl rfl rfl rfl rfl (fun hg4 => ?_) ?_
          rotate_left
          · try replace hg4 := of_decide_eq_true hg4
            refine QOps.st rfl rfl (Yv.move rfl).yl ?_
            refine QOps.st rfl rfl (Yv.fieldAddr fld37_1 rfl).yl ?_
            refine QOps.st rfl rfl (Yv.loadB (i := 0) lay3 rfl rfl rfl rfl).yl ?_
            refine QOps.st rfl rfl (Yv.leq rfl rfl).yl ?_
            exact QOps.nil rfl
          refine QOps.st rfl rfl (Yv.neB bool4 rfl rfl).yl ?_
          refine QOps.nil ?_
          refine Run.cond rfl (fun hc5 => ?_) (fun hc5 => ?_)
          · exfalso
            simp [may_span hc4, Bool.and_assoc] at hc5
          · try replace hc5 := of_decide_eq_false hc5
            refine Run.skip ?_
            refine Run.seq ?_
            refine Run.ops ?_
            refine SOps.st rfl rfl (Yv.move rfl).yl ?_
            refine SOps.one rfl (One.callER rfl callable43 (.cons rfl (.nil)) (fun w' hw' => DrawPassingMinutes_spec ((Rd.arg hs) w' hw')) ?_)
            rintro ⟨ya3, yb3, yd3⟩ Aq3 cq3 hx3
            dsimp only at *
            refine SOps.st rfl rfl (Yv.move rfl).yl ?_
            refine SOps.st rfl rfl (Yv.extract rfl rfl).yl ?_
            refine SOps.st rfl rfl (Yv.extract rfl rfl).yl ?_
            refine SOps.st rfl rfl (Yv.extract rfl rfl).yl ?_
            refine SOps.st rfl rfl (Yv.assign rfl).yl ?_
            refine SOps.st rfl rfl (Yv.assign rfl).yl ?_
            refine SOps.st rfl rfl (Yv.assign rfl).yl ?_
            refine SOps.nil ?_
            refine Run.seq ?_
            refine Run.ops ?_
            refine SOps.st rfl rfl (Yv.move rfl).yl ?_
            refine SOps.st rfl rfl (Yv.move rfl).yl ?_
            refine SOps.st rfl rfl (Yv.move rfl).yl ?_
            refine SOps.st rfl rfl (Yl.call callable38 (.cons rfl (.cons rfl (.cons rfl (.nil)))) (fun w' hw' => PassingMinutes_spec ((Rd.row (i := 0) rfl) w' hw'))) ?_
            refine SOps.st rfl rfl (Yv.move rfl).yl ?_
            refine SOps.st rfl rfl (Yv.extract rfl rfl).yl ?_
            refine SOps.st rfl rfl (Yv.extract rfl rfl).yl ?_
            refine SOps.one rfl (One.alloc rfl zero54 (fun b4 => ?_))
            refine SOps.one rfl (One.store (i := 0) (off := 0) (vs := [_, _]) (cs' := [_, _]) (H' := [_, _, _, _, _, _, _]) lay54 rfl rfl rfl rfl rfl rfl rfl rfl rfl rfl ?_)
            refine SOps.st rfl rfl (Yv.assign rfl).yl ?_
            refine SOps.nil ?_
            refine Run.seq ?_
            refine Run.seq ?_
            refine Run.ops ?_
            refine SOps.st rfl rfl (Yv.move rfl).yl ?_
            refine SOps.st rfl rfl (Yv.move rfl).yl ?_
            refine SOps.st rfl rfl (Yv.move rfl).yl ?_
            refine SOps.st rfl rfl (Yl.call callable37 (.cons rfl (.cons rfl (.cons rfl (.nil)))) (fun w' hw' => sPassingMinutes_spec ((Rd.row (i := 1) rfl) w' hw'))) ?_
            refine SOps.st rfl rfl (Yv.move rfl).yl ?_
            refine SOps.st rfl rfl (Yv.extract rfl rfl).yl ?_
            refine SOps.st rfl rfl (Yv.extract rfl rfl).yl ?_
            refine SOps.one rfl (One.alloc rfl zero54 (fun b5 => ?_))
            refine SOps.one rfl (One.store (i := 0) (off := 0) (vs := [_, _]) (cs' := [_, _]) (H' := [_, _, _, _, _, _, _, _]) lay54 rfl rfl rfl rfl rfl rfl rfl rfl rfl rfl ?_)
            refine SOps.st rfl rfl (Yv.assign rfl).yl ?_
            refine SOps.nil ?_
            refine Run.seq ?_
            refine Run.quiet (by intro h; cases h) ?_
            refine QOps.st rfl rfl (Yv.loadBs (i := 1) lay54 rfl rfl rfl rfl).yl ?_
            refine QOps.st rfl rfl (Yv.loadBs (i := 0) lay54 rfl rfl rfl rfl).yl ?_
            refine QOps.st rfl rfl (Yv.neS scal54 rfl rfl rfl rfl).yl ?_
            refine QOps.st rfl rfl (Yv.move rfl).yl ?_
            refine' QOps.or [_, _, _] _ (.tmp 155) rfl rfl rfl rfl rfl rfl (fun hg5 => ?_) ?_
            rotate_left
            · try replace hg5 := of_decide_eq_false hg5
              refine QOps.st rfl rfl (Yv.move rfl).yl ?_
              refine QOps.st rfl rfl (Yv.move rfl).yl ?_
              refine QOps.st rfl rfl (Yv.neB bool4 rfl rfl).yl ?_
              exact QOps.nil rfl
            refine QOps.nil ?_
            refine Run.cond rfl (fun hc6 => ?_) (fun hc6 => ?_)
            · exfalso
              simp [eqC] at hc6
            · try replace hc6 := of_decide_eq_false hc6
              refine Run.skip ?_
              refine Run.seq ?_
              refine Run.seq ?_
              refine Run.quiet (by intro h; cases h) ?_
              refine QOps.st rfl rfl (Yv.move rfl).yl ?_
              refine QOps.nil ?_
              refine Run.cond rfl (fun hc7 => ?_) (fun hc7 => ?_)
              · try replace hc7 := of_decide_eq_true hc7
                have hP := passed hc7
                have hPi := hP.ivt
                have hP1 := hP.len
                have hP2 := hP.from_
                have hP3 := hP.to_
                refine Run.seq ?_
                refine Run.quiet (by intro h; cases h) ?_
                refine QOps.st rfl rfl (Yv.move rfl).yl ?_
                refine QOps.st rfl rfl (Yv.move rfl).yl ?_
                refine QOps.st rfl rfl (Yv.fieldAddr fld54_0 rfl).yl ?_
                refine QOps.st rfl rfl (Yv.loadB (i := 1) lay3 rfl rfl rfl rfl).yl ?_
                refine QOps.st rfl rfl (Yv.move rfl).yl ?_
                refine QOps.st rfl rfl (Yl.call callable24 (.cons rfl (.cons rfl (.cons rfl (.cons rfl (.nil))))) (fun w' hw' => MayBeAt_spec ((Rd.row (i := 2) rfl) w' hw'))) ?_
                refine QOps.st rfl rfl (Yv.move rfl).yl ?_
                refine QOps.st rfl rfl (Yv.extract rfl rfl).yl ?_
                refine QOps.st rfl rfl (Yv.extract rfl rfl).yl ?_
                refine QOps.st rfl rfl (Yv.assign rfl).yl ?_
                refine QOps.st rfl rfl (Yv.assign rfl).yl ?_
                refine QOps.nil ?_
                refine Run.seq ?_
                refine Run.quiet (by intro h; cases h) ?_
                refine QOps.st rfl rfl (Yv.move rfl).yl ?_
                refine QOps.st rfl rfl (Yv.move rfl).yl ?_
                refine QOps.st rfl rfl (Yv.fieldAddr fld54_1 rfl).yl ?_
                refine QOps.st rfl rfl (Yv.loadB (i := 1) lay3 rfl rfl rfl rfl).yl ?_
                refine QOps.st rfl rfl (Yv.move rfl).yl ?_
                refine QOps.st rfl rfl (Yl.call callable24 (.cons rfl (.cons rfl (.cons rfl (.cons rfl (.nil))))) (fun w' hw' => MayBeAt_spec ((Rd.row (i := 2) rfl) w' hw'))) ?_
                refine QOps.st rfl rfl (Yv.move rfl).yl ?_
                refine QOps.st rfl rfl (Yv.extract rfl rfl).yl ?_
                refine QOps.st rfl rfl (Yv.extract rfl rfl).yl ?_
                refine QOps.st rfl rfl (Yv.assign rfl).yl ?_
                refine QOps.st rfl rfl (Yv.assign rfl).yl ?_
                refine QOps.nil ?_
                refine Run.seq ?_
                refine Run.quiet (fun _ => ⟨by kernel_rfl, by kernel_rfl⟩) ?_
                refine QOps.st rfl rfl (Yv.move rfl).yl ?_
                refine QOps.st rfl rfl (Yv.not rfl).yl ?_
                refine QOps.st rfl rfl (Yv.move rfl).yl ?_
                refine' QOps.or [_, _] _ (.tmp 180) rfl rfl rfl rfl rfl rfl (fun hg6 => ?_) ?_
                rotate_left
                · try replace hg6 := of_decide_eq_false hg6
                  refine QOps.st rfl rfl (Yv.move rfl).yl ?_
                  refine QOps.st rfl rfl (Yv.not rfl).yl ?_
                  exact QOps.nil rfl
                refine QOps.st rfl rfl (Yv.move rfl).yl ?_
                refine' QOps.or [_, _] _ (.tmp 184) rfl rfl rfl rfl rfl rfl (fun hg7 => ?_) ?_
                rotate_left
                · try replace hg7 := of_decide_eq_false hg7
                  refine QOps.st rfl rfl (Yv.move rfl).yl ?_
                  refine QOps.st rfl rfl (Yv.not rfl).yl ?_
                  exact QOps.nil rfl
                refine QOps.st rfl rfl (Yv.move rfl).yl ?_
                refine' QOps.or [_, _] _ (.tmp 188) rfl rfl rfl rfl rfl rfl (fun hg8 => ?_) ?_
                rotate_left
                · try replace hg8 := of_decide_eq_false hg8
                  refine QOps.st rfl rfl (Yv.move rfl).yl ?_
                  refine QOps.st rfl rfl (Yv.not rfl).yl ?_
                  exact QOps.nil rfl
                refine QOps.st rfl rfl (Yv.move rfl).yl ?_
                refine' QOps.or [_, _, _, _, _, _, _] _ (.tmp 197) rfl rfl rfl rfl rfl rfl (fun hg9 => ?_) ?_
                rotate_left
                · try replace hg9 := of_decide_eq_false hg9
                  refine QOps.st rfl rfl (Yv.fieldAddr fld54_0 rfl).yl ?_
                  refine QOps.st rfl rfl (Yv.loadB (i := 1) lay3 rfl rfl rfl rfl).yl ?_
                  refine QOps.st rfl rfl (Yv.move rfl).yl ?_
                  refine QOps.st rfl rfl (Yv.indexAddr 0 el25 rfl rfl rfl (Rd.row (i := 2) rfl) (by omega)).yl ?_
                  refine QOps.st rfl rfl (Yv.fieldAddr fld49_0 rfl).yl ?_
                  refine QOps.st rfl rfl (Yv.loadF lay3 rfl Fix.len (Rd.row (i := 2) rfl) (by first | omega | (simp; omega)) (by decide) rfl).yl ?_
                  refine QOps.st rfl rfl (Yv.lss rfl rfl).yl ?_
                  exact QOps.nil rfl
                refine QOps.st rfl rfl (Yv.move rfl).yl ?_
                refine' QOps.or [_, _, _, _, _, _, _, _, _, _] _ (.tmp 209) rfl rfl rfl rfl rfl rfl (fun hg10 => ?_) ?_
                rotate_left
                · try replace hg10 := of_decide_eq_false hg10
                  refine QOps.st rfl rfl (Yv.fieldAddr fld54_1 rfl).yl ?_
                  refine QOps.st rfl rfl (Yv.loadB (i := 1) lay3 rfl rfl rfl rfl).yl ?_
                  refine QOps.st rfl rfl (Yv.move rfl).yl ?_
                  refine QOps.st rfl rfl (Yv.move rfl).yl ?_
                  refine QOps.st rfl rfl (Yv.lenS el25s rfl).yl ?_
                  refine QOps.st rfl rfl (Yv.sub rfl rfl (by omega)).yl ?_
                  refine QOps.st rfl rfl (Yv.indexAddr (ya3.length - 1) el25 rfl rfl (by omega) (Rd.row (i := 2) rfl) (by omega)).yl ?_
                  refine QOps.st rfl rfl (Yv.fieldAddr fld49_0 rfl).yl ?_
                  refine QOps.st rfl rfl (Yv.loadF lay3 rfl Fix.len (Rd.row (i := 2) rfl) (by first | omega | (simp; omega)) (by decide) rfl).yl ?_
                  refine QOps.st rfl rfl (Yv.gtr rfl rfl).yl ?_
                  exact QOps.nil rfl
                refine QOps.st rfl rfl (Yv.move rfl).yl ?_
                refine' QOps.or [_, _, _] _ (.tmp 214) rfl rfl rfl rfl rfl rfl (fun hg11 => ?_) ?_
                rotate_left
                · try replace hg11 := of_decide_eq_false hg11
                  refine QOps.st rfl rfl (Yv.loadBs (i := 1) lay54 rfl rfl rfl rfl).yl ?_
                  refine QOps.st rfl rfl (Yl.call callable44 (.cons rfl (.nil)) (fun w' hw' => IsInterval_spec (i := ⟨_, _⟩))) ?_
                  refine QOps.st rfl rfl (Yv.not rfl).yl ?_
                  exact QOps.nil rfl
                refine QOps.nil ?_
                refine Run.cond rfl (fun hc8 => ?_) (fun hc8 => ?_)
                · exfalso
                  simp [hP.first_, hP.last_, hPi] at hc8 <;> omega
                · try replace hc8 := of_decide_eq_false hc8
                  refine Run.skip ?_
                  refine Run.seq ?_
                  refine Run.ops ?_
                  refine SOps.st rfl rfl (Yv.move rfl).yl ?_
                  refine SOps.one rfl (One.callER2 rfl callable45 (.cons rfl (.nil)) (fun w' hw' => DrawMayMeet_spec ((Rd.arg hs) w' hw')) ?_)
                  rintro ⟨ya4, yb4, yd4, ye4⟩ Aq4 cq4 Bq4 dq4 ⟨hx4, hy4⟩
                  dsimp only at *
                  refine SOps.st rfl rfl (Yv.move rfl).yl ?_
                  refine SOps.st rfl rfl (Yv.extract rfl rfl).yl ?_
                  refine SOps.st rfl rfl (Yv.extract rfl rfl).yl ?_
                  refine SOps.st rfl rfl (Yv.extract rfl rfl).yl ?_
                  refine SOps.st rfl rfl (Yv.extract rfl rfl).yl ?_
                  refine SOps.st rfl rfl (Yv.assign rfl).yl ?_
                  refine SOps.st rfl rfl (Yv.assign rfl).yl ?_
                  refine SOps.st rfl rfl (Yv.assign rfl).yl ?_
                  refine SOps.st rfl rfl (Yv.assign rfl).yl ?_
                  refine SOps.nil ?_
                  refine Run.seq ?_
                  refine Run.quiet (by intro h; cases h) ?_
                  refine QOps.st rfl rfl (Yv.move rfl).yl ?_
                  refine QOps.st rfl rfl (Yv.move rfl).yl ?_
                  refine QOps.st rfl rfl (Yv.move rfl).yl ?_
                  refine QOps.st rfl rfl (Yv.move rfl).yl ?_
                  refine QOps.st rfl rfl (Yl.call callable31 (.cons rfl (.cons rfl (.cons rfl (.cons rfl (.nil))))) (fun w' hw' => MayMeet_spec ((Rd.row (i := 0) rfl) w' hw') ((Rd.row (i := 1) rfl) w' hw'))) ?_
                  refine QOps.st rfl rfl (Yv.move rfl).yl ?_
                  refine QOps.st rfl rfl (Yv.extract rfl rfl).yl ?_
                  refine QOps.st rfl rfl (Yv.extract rfl rfl).yl ?_
                  refine QOps.st rfl rfl (Yv.assign rfl).yl ?_
                  refine QOps.st rfl rfl (Yv.assign rfl).yl ?_
                  refine QOps.nil ?_
                  refine Run.seq ?_
                  refine Run.seq ?_
                  refine Run.quiet (by intro h; cases h) ?_
                  refine QOps.st rfl rfl (Yv.move rfl).yl ?_
                  refine QOps.st rfl rfl (Yv.move rfl).yl ?_
                  refine QOps.st rfl rfl (Yv.move rfl).yl ?_
                  refine QOps.st rfl rfl (Yv.move rfl).yl ?_
                  refine QOps.st rfl rfl (Yl.call callable30 (.cons rfl (.cons rfl (.cons rfl (.cons rfl (.nil))))) (fun w' hw' => sMayMeet_spec ((Rd.row (i := 0) rfl) w' hw') ((Rd.row (i := 1) rfl) w' hw'))) ?_
                  refine QOps.st rfl rfl (Yv.move rfl).yl ?_
                  refine QOps.st rfl rfl (Yv.extract rfl rfl).yl ?_
                  refine QOps.st rfl rfl (Yv.extract rfl rfl).yl ?_
                  refine QOps.st rfl rfl (Yv.assign rfl).yl ?_
                  refine QOps.st rfl rfl (Yv.assign rfl).yl ?_
                  refine QOps.nil ?_
                  refine Run.seq ?_
                  refine Run.quiet (by intro h; cases h) ?_
                  refine QOps.st rfl rfl (Yv.move rfl).yl ?_
                  refine QOps.st rfl rfl (Yv.move rfl).yl ?_
                  refine QOps.st rfl rfl (Yv.neB bool4 rfl rfl).yl ?_
                  refine QOps.st rfl rfl (Yv.move rfl).yl ?_
                  refine' QOps.or [_, _, _] _ (.tmp 245) rfl rfl rfl rfl rfl rfl (fun hg12 => ?_) ?_
                  rotate_left
                  · try replace hg12 := of_decide_eq_false hg12
                    refine QOps.st rfl rfl (Yv.move rfl).yl ?_
                    refine QOps.st rfl rfl (Yv.move rfl).yl ?_
                    refine QOps.st rfl rfl (Yv.neB bool4 rfl rfl).yl ?_
                    exact QOps.nil rfl
                  refine QOps.nil ?_
                  refine Run.cond rfl (fun hc9 => ?_) (fun hc9 => ?_)
                  · exfalso
                    simp at hc9
                  · try replace hc9 := of_decide_eq_false hc9
                    refine Run.skip ?_
                    refine Run.seq ?_
                    refine Run.seq ?_
                    refine Run.quiet (by intro h; cases h) ?_
                    refine QOps.st rfl rfl (Yv.move rfl).yl ?_
                    refine QOps.nil ?_
                    refine Run.cond rfl (fun hc10 => ?_) (fun hc10 => ?_)
                    · try replace hc10 := of_decide_eq_true hc10
                      have hM := met hc10
                      refine Run.seq ?_
                      refine Run.quiet (by intro h; cases h) ?_
                      refine QOps.st rfl rfl (Yv.move rfl).yl ?_
                      refine QOps.st rfl rfl (Yv.move rfl).yl ?_
                      refine QOps.st rfl rfl (Yv.move rfl).yl ?_
                      refine QOps.st rfl rfl (Yv.move rfl).yl ?_
                      refine QOps.st rfl rfl (Yl.call callable31 (.cons rfl (.cons rfl (.cons rfl (.cons rfl (.nil))))) (fun w' hw' => MayMeet_spec ((Rd.row (i := 1) rfl) w' hw') ((Rd.row (i := 0) rfl) w' hw'))) ?_
                      refine QOps.st rfl rfl (Yv.move rfl).yl ?_
                      refine QOps.st rfl rfl (Yv.extract rfl rfl).yl ?_
                      refine QOps.st rfl rfl (Yv.extract rfl rfl).yl ?_
                      refine QOps.st rfl rfl (Yv.assign rfl).yl ?_
                      refine QOps.st rfl rfl (Yv.assign rfl).yl ?_
                      refine QOps.nil ?_
                      refine Run.seq ?_
                      refine Run.ops ?_
                      refine SOps.st rfl rfl (Yv.move rfl).yl ?_
                      refine SOps.st rfl rfl (Yv.move rfl).yl ?_
                      refine SOps.st rfl rfl (Yv.move rfl).yl ?_
                      refine SOps.st rfl rfl (Yl.call callable26 (.cons rfl (.cons rfl (.cons rfl (.nil)))) (fun w' hw' => SpanAt_spec ((Rd.row (i := 0) rfl) w' hw'))) ?_
                      refine SOps.st rfl rfl (Yv.move rfl).yl ?_
                      refine SOps.st rfl rfl (Yv.extract rfl rfl).yl ?_
                      refine SOps.st rfl rfl (Yv.extract rfl rfl).yl ?_
                      refine SOps.one rfl (One.alloc rfl zero37 (fun b6 => ?_))
                      refine SOps.one rfl (One.store (i := 0) (off := 0) (vs := [_, _]) (cs' := [_, _]) (H' := [_, _, _, _, _, _, _, _, _, _, _]) lay37 rfl rfl rfl rfl rfl rfl rfl rfl rfl rfl ?_)
                      refine SOps.st rfl rfl (Yv.assign rfl).yl ?_
                      refine SOps.nil ?_
                      refine Run.seq ?_
                      refine Run.quiet (by intro h; cases h) ?_
                      refine QOps.st rfl rfl (Yv.move rfl).yl ?_
                      refine QOps.st rfl rfl (Yv.move rfl).yl ?_
                      refine QOps.st rfl rfl (Yv.move rfl).yl ?_
                      refine QOps.st rfl rfl (Yv.move rfl).yl ?_
                      refine QOps.st rfl rfl (Yl.call callable31 (.cons rfl (.cons rfl (.cons rfl (.cons rfl (.nil))))) (fun w' hw' => MayMeet_spec ((Rd.row (i := 1) rfl) w' hw') ((Rd.row (i := 1) rfl) w' hw'))) ?_
                      refine QOps.st rfl rfl (Yv.move rfl).yl ?_
                      refine QOps.st rfl rfl (Yv.extract rfl rfl).yl ?_
                      refine QOps.st rfl rfl (Yv.extract rfl rfl).yl ?_
                      refine QOps.st rfl rfl (Yv.assign rfl).yl ?_
                      refine QOps.st rfl rfl (Yv.assign rfl).yl ?_
                      refine QOps.nil ?_
                      refine Run.seq ?_
                      refine Run.quiet (by intro h; cases h) ?_
                      refine QOps.st rfl rfl (Yv.move rfl).yl ?_
                      refine QOps.st rfl rfl (Yv.move rfl).yl ?_
                      refine' QOps.and [_, _, _] _ (.tmp 275) rfl rfl rfl rfl rfl rfl (fun hg13 => ?_) ?_
                      rotate_left
                      · try replace hg13 := of_decide_eq_true hg13
                        refine QOps.st rfl rfl (Yv.move rfl).yl ?_
                        refine QOps.st rfl rfl (Yv.move rfl).yl ?_
                        refine QOps.st rfl rfl (Yv.eqB bool4 rfl rfl).yl ?_
                        exact QOps.nil rfl
                      refine QOps.st rfl rfl (Yv.move rfl).yl ?_
                      refine' QOps.and [_] _ (.tmp 278) rfl rfl rfl rfl rfl rfl (fun hg14 => ?_) ?_
                      rotate_left
                      · try replace hg14 := of_decide_eq_true hg14
                        refine QOps.st rfl rfl (Yv.move rfl).yl ?_
                        exact QOps.nil rfl
                      refine QOps.st rfl rfl (Yv.move rfl).yl ?_
                      refine' QOps.and [_, _, _] _ (.tmp 283) rfl rfl rfl rfl rfl rfl (fun hg15 => ?_) ?_
                      rotate_left
                      · try replace hg15 := of_decide_eq_true hg15
                        refine QOps.st rfl rfl (Yv.move rfl).yl ?_
                        refine QOps.st rfl rfl (Yv.move rfl).yl ?_
                        refine QOps.st rfl rfl (Yv.eqB bool4 rfl rfl).yl ?_
                        exact QOps.nil rfl
                      refine QOps.st rfl rfl (Yv.move rfl).yl ?_
                      refine' QOps.and [_, _, _, _, _] _ (.tmp 290) rfl rfl rfl rfl rfl rfl (fun hg16 => ?_) ?_
                      rotate_left
                      · try replace hg16 := of_decide_eq_true hg16
                        refine QOps.st rfl rfl (Yv.move rfl).yl ?_
                        refine QOps.st rfl rfl (Yv.not rfl).yl ?_
                        refine QOps.st rfl rfl (Yv.move rfl).yl ?_
                        refine' QOps.or [_] _ (.tmp 289) rfl rfl rfl rfl rfl rfl (fun hg17 => ?_) ?_
                        rotate_left
                        · try replace hg17 := of_decide_eq_false hg17
                          refine QOps.st rfl rfl (Yv.move rfl).yl ?_
                          exact QOps.nil rfl
                        exact QOps.nil rfl
                      refine QOps.st rfl rfl (Yv.assign rfl).yl ?_
                      refine QOps.nil ?_
                      refine Run.ret ?_
                      refine retQ.of (.inr rfl) rfl (.tmp rfl .nil) (fun w' hw' => ?_)
                      refine ⟨?_, hw'.bel.below⟩
                      refine retB_eq ?_
                      first | rfl | (have hMb := hM.both; simp only [hM.is_, hM.back, hM.self]; revert hMb; cases meetIs _ _ _ _ <;> cases (spanOf _ _ _).2 <;> simp)
                    · try replace hc10 := of_decide_eq_false hc10
                      refine Run.skip ?_
                      refine Run.seq ?_
                      refine Run.quiet (by intro h; cases h) ?_
                      refine QOps.st rfl rfl (Yv.assign rfl).yl ?_
                      refine QOps.nil ?_
                      refine Run.ret ?_
                      refine retQ.of (.inr rfl) rfl (.tmp rfl .nil) (fun w' hw' => ?_)
                      refine ⟨?_, hw'.bel.below⟩
                      refine retB_eq ?_
                      first | rfl | (have hMb := hM.both; simp only [hM.is_, hM.back, hM.self]; revert hMb; cases meetIs _ _ _ _ <;> cases (spanOf _ _ _).2 <;> simp)
              · try replace hc7 := of_decide_eq_false hc7
                refine Run.skip ?_
                refine Run.seq ?_
                refine Run.ops ?_
                refine SOps.st rfl rfl (Yv.move rfl).yl ?_
                refine SOps.one rfl (One.callER2 rfl callable45 (.cons rfl (.nil)) (fun w' hw' => DrawMayMeet_spec ((Rd.arg hs) w' hw')) ?_)
                rintro ⟨ya5, yb5, yd5, ye5⟩ Aq5 cq5 Bq5 dq5 ⟨hx5, hy5⟩
                dsimp only at *
                refine SOps.st rfl rfl (Yv.move rfl).yl ?_
                refine SOps.st rfl rfl (Yv.extract rfl rfl).yl ?_
                refine SOps.st rfl rfl (Yv.extract rfl rfl).yl ?_
                refine SOps.st rfl rfl (Yv.extract rfl rfl).yl ?_
                refine SOps.st rfl rfl (Yv.extract rfl rfl).yl ?_
                refine SOps.st rfl rfl (Yv.assign rfl).yl ?_
                refine SOps.st rfl rfl (Yv.assign rfl).yl ?_
                refine SOps.st rfl rfl (Yv.assign rfl).yl ?_
                refine SOps.st rfl rfl (Yv.assign rfl).yl ?_
                refine SOps.nil ?_
                refine Run.seq ?_
                refine Run.quiet (by intro h; cases h) ?_
                refine QOps.st rfl rfl (Yv.move rfl).yl ?_
                refine QOps.st rfl rfl (Yv.move rfl).yl ?_
                refine QOps.st rfl rfl (Yv.move rfl).yl ?_
                refine QOps.st rfl rfl (Yv.move rfl).yl ?_
                refine QOps.st rfl rfl (Yl.call callable31 (.cons rfl (.cons rfl (.cons rfl (.cons rfl (.nil))))) (fun w' hw' => MayMeet_spec ((Rd.row (i := 0) rfl) w' hw') ((Rd.row (i := 1) rfl) w' hw'))) ?_
                refine QOps.st rfl rfl (Yv.move rfl).yl ?_
                refine QOps.st rfl rfl (Yv.extract rfl rfl).yl ?_
                refine QOps.st rfl rfl (Yv.extract rfl rfl).yl ?_
                refine QOps.st rfl rfl (Yv.assign rfl).yl ?_
                refine QOps.st rfl rfl (Yv.assign rfl).yl ?_
                refine QOps.nil ?_
                refine Run.seq ?_
                refine Run.seq ?_
                refine Run.quiet (by intro h; cases h) ?_
                refine QOps.st rfl rfl (Yv.move rfl).yl ?_
                refine QOps.st rfl rfl (Yv.move rfl).yl ?_
                refine QOps.st rfl rfl (Yv.move rfl).yl ?_
                refine QOps.st rfl rfl (Yv.move rfl).yl ?_
                refine QOps.st rfl rfl (Yl.call callable30 (.cons rfl (.cons rfl (.cons rfl (.cons rfl (.nil))))) (fun w' hw' => sMayMeet_spec ((Rd.row (i := 0) rfl) w' hw') ((Rd.row (i := 1) rfl) w' hw'))) ?_
                refine QOps.st rfl rfl (Yv.move rfl).yl ?_
                refine QOps.st rfl rfl (Yv.extract rfl rfl).yl ?_
                refine QOps.st rfl rfl (Yv.extract rfl rfl).yl ?_
                refine QOps.st rfl rfl (Yv.assign rfl).yl ?_
                refine QOps.st rfl rfl (Yv.assign rfl).yl ?_
                refine QOps.nil ?_
                refine Run.seq ?_
                refine Run.quiet (by intro h; cases h) ?_
                refine QOps.st rfl rfl (Yv.move rfl).yl ?_
                refine QOps.st rfl rfl (Yv.move rfl).yl ?_
                refine QOps.st rfl rfl (Yv.neB bool4 rfl rfl).yl ?_
                refine QOps.st rfl rfl (Yv.move rfl).yl ?_
                refine' QOps.or [_, _, _] _ (.tmp 245) rfl rfl rfl rfl rfl rfl (fun hg18 => ?_) ?_
                rotate_left
                · try replace hg18 := of_decide_eq_false hg18
                  refine QOps.st rfl rfl (Yv.move rfl).yl ?_
                  refine QOps.st rfl rfl (Yv.move rfl).yl ?_
                  refine QOps.st rfl rfl (Yv.neB bool4 rfl rfl).yl ?_
                  exact QOps.nil rfl
                refine QOps.nil ?_
                refine Run.cond rfl (fun hc11 => ?_) (fun hc11 => ?_)
                · exfalso
                  simp at hc11
                · try replace hc11 := of_decide_eq_false hc11
                  refine Run.skip ?_
                  refine Run.seq ?_
                  refine Run.seq ?_
                  refine Run.quiet (by intro h; cases h) ?_
                  refine QOps.st rfl rfl (Yv.move rfl).yl ?_
                  refine QOps.nil ?_
                  refine Run.cond rfl (fun hc12 => ?_) (fun hc12 => ?_)
                  · try replace hc12 := of_decide_eq_true hc12
                    have hM := met hc12
                    refine Run.seq ?_
                    refine Run.quiet (by intro h; cases h) ?_
                    refine QOps.st rfl rfl (Yv.move rfl).yl ?_
                    refine QOps.st rfl rfl (Yv.move rfl).yl ?_
                    refine QOps.st rfl rfl (Yv.move rfl).yl ?_
                    refine QOps.st rfl rfl (Yv.move rfl).yl ?_
                    refine QOps.st rfl rfl (Yl.call callable31 (.cons rfl (.cons rfl (.cons rfl (.cons rfl (.nil))))) (fun w' hw' => MayMeet_spec ((Rd.row (i := 1) rfl) w' hw') ((Rd.row (i := 0) rfl) w' hw'))) ?_
                    refine QOps.st rfl rfl (Yv.move rfl).yl ?_
                    refine QOps.st rfl rfl (Yv.extract rfl rfl).yl ?_
                    refine QOps.st rfl rfl (Yv.extract rfl rfl).yl ?_
                    refine QOps.st rfl rfl (Yv.assign rfl).yl ?_
                    refine QOps.st rfl rfl (Yv.assign rfl).yl ?_
                    refine QOps.nil ?_
                    refine Run.seq ?_
                    refine Run.ops ?_
                    refine SOps.st rfl rfl (Yv.move rfl).yl ?_
                    refine SOps.st rfl rfl (Yv.move rfl).yl ?_
                    refine SOps.st rfl rfl (Yv.move rfl).yl ?_
                    refine SOps.st rfl rfl (Yl.call callable26 (.cons rfl (.cons rfl (.cons rfl (.nil)))) (fun w' hw' => SpanAt_spec ((Rd.row (i := 0) rfl) w' hw'))) ?_
                    refine SOps.st rfl rfl (Yv.move rfl).yl ?_
                    refine SOps.st rfl rfl (Yv.extract rfl rfl).yl ?_
                    refine SOps.st rfl rfl (Yv.extract rfl rfl).yl ?_
                    refine SOps.one rfl (One.alloc rfl zero37 (fun b7 => ?_))
                    refine SOps.one rfl (One.store (i := 0) (off := 0) (vs := [_, _]) (cs' := [_, _]) (H' := [_, _, _, _, _, _, _, _, _, _, _]) lay37 rfl rfl rfl rfl rfl rfl rfl rfl rfl rfl ?_)
                    refine SOps.st rfl rfl (Yv.assign rfl).yl ?_
                    refine SOps.nil ?_
                    refine Run.seq ?_
                    refine Run.quiet (by intro h; cases h) ?_
                    refine QOps.st rfl rfl (Yv.move rfl).yl ?_
                    refine QOps.st rfl rfl (Yv.move rfl).yl ?_
                    refine QOps.st rfl rfl (Yv.move rfl).yl ?_
                    refine QOps.st rfl rfl (Yv.move rfl).yl ?_
                    refine QOps.st rfl rfl (Yl.call callable31 (.cons rfl (.cons rfl (.cons rfl (.cons rfl (.nil))))) (fun w' hw' => MayMeet_spec ((Rd.row (i := 1) rfl) w' hw') ((Rd.row (i := 1) rfl) w' hw'))) ?_
                    refine QOps.st rfl rfl (Yv.move rfl).yl ?_
                    refine QOps.st rfl rfl (Yv.extract rfl rfl).yl ?_
                    refine QOps.st rfl rfl (Yv.extract rfl rfl).yl ?_
                    refine QOps.st rfl rfl (Yv.assign rfl).yl ?_
                    refine QOps.st rfl rfl (Yv.assign rfl).yl ?_
                    refine QOps.nil ?_
                    refine Run.seq ?_
                    refine Run.quiet (by intro h; cases h) ?_
                    refine QOps.st rfl rfl (Yv.move rfl).yl ?_
                    refine QOps.st rfl rfl (Yv.move rfl).yl ?_
                    refine' QOps.and [_, _, _] _ (.tmp 275) rfl rfl rfl rfl rfl rfl (fun hg19 => ?_) ?_
                    rotate_left
                    · try replace hg19 := of_decide_eq_true hg19
                      refine QOps.st rfl rfl (Yv.move rfl).yl ?_
                      refine QOps.st rfl rfl (Yv.move rfl).yl ?_
                      refine QOps.st rfl rfl (Yv.eqB bool4 rfl rfl).yl ?_
                      exact QOps.nil rfl
                    refine QOps.st rfl rfl (Yv.move rfl).yl ?_
                    refine' QOps.and [_] _ (.tmp 278) rfl rfl rfl rfl rfl rfl (fun hg20 => ?_) ?_
                    rotate_left
                    · try replace hg20 := of_decide_eq_true hg20
                      refine QOps.st rfl rfl (Yv.move rfl).yl ?_
                      exact QOps.nil rfl
                    refine QOps.st rfl rfl (Yv.move rfl).yl ?_
                    refine' QOps.and [_, _, _] _ (.tmp 283) rfl rfl rfl rfl rfl rfl (fun hg21 => ?_) ?_
                    rotate_left
                    · try replace hg21 := of_decide_eq_true hg21
                      refine QOps.st rfl rfl (Yv.move rfl).yl ?_
                      refine QOps.st rfl rfl (Yv.move rfl).yl ?_
                      refine QOps.st rfl rfl (Yv.eqB bool4 rfl rfl).yl ?_
                      exact QOps.nil rfl
                    refine QOps.st rfl rfl (Yv.move rfl).yl ?_
                    refine' QOps.and [_, _, _, _, _] _ (.tmp 290) rfl rfl rfl rfl rfl rfl (fun hg22 => ?_) ?_
                    rotate_left
                    · try replace hg22 := of_decide_eq_true hg22
                      refine QOps.st rfl rfl (Yv.move rfl).yl ?_
                      refine QOps.st rfl rfl (Yv.not rfl).yl ?_
                      refine QOps.st rfl rfl (Yv.move rfl).yl ?_
                      refine' QOps.or [_] _ (.tmp 289) rfl rfl rfl rfl rfl rfl (fun hg23 => ?_) ?_
                      rotate_left
                      · try replace hg23 := of_decide_eq_false hg23
                        refine QOps.st rfl rfl (Yv.move rfl).yl ?_
                        exact QOps.nil rfl
                      exact QOps.nil rfl
                    refine QOps.st rfl rfl (Yv.assign rfl).yl ?_
                    refine QOps.nil ?_
                    refine Run.ret ?_
                    refine retQ.of (.inr rfl) rfl (.tmp rfl .nil) (fun w' hw' => ?_)
                    refine ⟨?_, hw'.bel.below⟩
                    refine retB_eq ?_
                    first | rfl | (have hMb := hM.both; simp only [hM.is_, hM.back, hM.self]; revert hMb; cases meetIs _ _ _ _ <;> cases (spanOf _ _ _).2 <;> simp)
                  · try replace hc12 := of_decide_eq_false hc12
                    refine Run.skip ?_
                    refine Run.seq ?_
                    refine Run.quiet (by intro h; cases h) ?_
                    refine QOps.st rfl rfl (Yv.assign rfl).yl ?_
                    refine QOps.nil ?_
                    refine Run.ret ?_
                    refine retQ.of (.inr rfl) rfl (.tmp rfl .nil) (fun w' hw' => ?_)
                    refine ⟨?_, hw'.bel.below⟩
                    refine retB_eq ?_
                    first | rfl | (have hMb := hM.both; simp only [hM.is_, hM.back, hM.self]; revert hMb; cases meetIs _ _ _ _ <;> cases (spanOf _ _ _).2 <;> simp)
        · try replace hc4 := of_decide_eq_false hc4
          refine Run.skip ?_
          refine Run.seq ?_
          refine Run.ops ?_
          refine SOps.st rfl rfl (Yv.move rfl).yl ?_
          refine SOps.one rfl (One.callER rfl callable43 (.cons rfl (.nil)) (fun w' hw' => DrawPassingMinutes_spec ((Rd.arg hs) w' hw')) ?_)
          rintro ⟨ya6, yb6, yd6⟩ Aq6 cq6 hx6
          dsimp only at *
          refine SOps.st rfl rfl (Yv.move rfl).yl ?_
          refine SOps.st rfl rfl (Yv.extract rfl rfl).yl ?_
          refine SOps.st rfl rfl (Yv.extract rfl rfl).yl ?_
          refine SOps.st rfl rfl (Yv.extract rfl rfl).yl ?_
          refine SOps.st rfl rfl (Yv.assign rfl).yl ?_
          refine SOps.st rfl rfl (Yv.assign rfl).yl ?_
          refine SOps.st rfl rfl (Yv.assign rfl).yl ?_
          refine SOps.nil ?_
          refine Run.seq ?_
          refine Run.ops ?_
          refine SOps.st rfl rfl (Yv.move rfl).yl ?_
          refine SOps.st rfl rfl (Yv.move rfl).yl ?_
          refine SOps.st rfl rfl (Yv.move rfl).yl ?_
          refine SOps.st rfl rfl (Yl.call callable38 (.cons rfl (.cons rfl (.cons rfl (.nil)))) (fun w' hw' => PassingMinutes_spec ((Rd.row (i := 0) rfl) w' hw'))) ?_
          refine SOps.st rfl rfl (Yv.move rfl).yl ?_
          refine SOps.st rfl rfl (Yv.extract rfl rfl).yl ?_
          refine SOps.st rfl rfl (Yv.extract rfl rfl).yl ?_
          refine SOps.one rfl (One.alloc rfl zero54 (fun b8 => ?_))
          refine SOps.one rfl (One.store (i := 0) (off := 0) (vs := [_, _]) (cs' := [_, _]) (H' := [_, _, _, _, _, _]) lay54 rfl rfl rfl rfl rfl rfl rfl rfl rfl rfl ?_)
          refine SOps.st rfl rfl (Yv.assign rfl).yl ?_
          refine SOps.nil ?_
          refine Run.seq ?_
          refine Run.seq ?_
          refine Run.ops ?_
          refine SOps.st rfl rfl (Yv.move rfl).yl ?_
          refine SOps.st rfl rfl (Yv.move rfl).yl ?_
          refine SOps.st rfl rfl (Yv.move rfl).yl ?_
          refine SOps.st rfl rfl (Yl.call callable37 (.cons rfl (.cons rfl (.cons rfl (.nil)))) (fun w' hw' => sPassingMinutes_spec ((Rd.row (i := 1) rfl) w' hw'))) ?_
          refine SOps.st rfl rfl (Yv.move rfl).yl ?_
          refine SOps.st rfl rfl (Yv.extract rfl rfl).yl ?_
          refine SOps.st rfl rfl (Yv.extract rfl rfl).yl ?_
          refine SOps.one rfl (One.alloc rfl zero54 (fun b9 => ?_))
          refine SOps.one rfl (One.store (i := 0) (off := 0) (vs := [_, _]) (cs' := [_, _]) (H' := [_, _, _, _, _, _, _]) lay54 rfl rfl rfl rfl rfl rfl rfl rfl rfl rfl ?_)
          refine SOps.st rfl rfl (Yv.assign rfl).yl ?_
          refine SOps.nil ?_
          refine Run.seq ?_
          refine Run.quiet (by intro h; cases h) ?_
          refine QOps.st rfl rfl (Yv.loadBs (i := 1) lay54 rfl rfl rfl rfl).yl ?_
          refine QOps.st rfl rfl (Yv.loadBs (i := 0) lay54 rfl rfl rfl rfl).yl ?_
          refine QOps.st rfl rfl (Yv.neS scal54 rfl rfl rfl rfl).yl ?_
          refine QOps.st rfl rfl (Yv.move rfl).yl ?_
          refine' QOps.or [_, _, _] _ (.tmp 155) rfl rfl rfl rfl rfl rfl (fun hg24 => ?_) ?_
          rotate_left
          · try replace hg24 := of_decide_eq_false hg24
            refine QOps.st rfl rfl (Yv.move rfl).yl ?_
            refine QOps.st rfl rfl (Yv.move rfl).yl ?_
            refine QOps.st rfl rfl (Yv.neB bool4 rfl rfl).yl ?_
            exact QOps.nil rfl
          refine QOps.nil ?_
          refine Run.cond rfl (fun hc13 => ?_) (fun hc13 => ?_)
          · exfalso
            simp [eqC] at hc13
          · try replace hc13 := of_decide_eq_false hc13
            refine Run.skip ?_
            refine Run.seq ?_
            refine Run.seq ?_
            refine Run.quiet (by intro h; cases h) ?_
            refine QOps.st rfl rfl (Yv.move rfl).yl ?_
            refine QOps.nil ?_
            refine Run.cond rfl (fun hc14 => ?_) (fun hc14 => ?_)
            · try replace hc14 := of_decide_eq_true hc14
              have hP := passed hc14
              have hPi := hP.ivt
              have hP1 := hP.len
              have hP2 := hP.from_
              have hP3 := hP.to_
              refine Run.seq ?_
              refine Run.quiet (by intro h; cases h) ?_
              refine QOps.st rfl rfl (Yv.move rfl).yl ?_
              refine QOps.st rfl rfl (Yv.move rfl).yl ?_
              refine QOps.st rfl rfl (Yv.fieldAddr fld54_0 rfl).yl ?_
              refine QOps.st rfl rfl (Yv.loadB (i := 1) lay3 rfl rfl rfl rfl).yl ?_
              refine QOps.st rfl rfl (Yv.move rfl).yl ?_
              refine QOps.st rfl rfl (Yl.call callable24 (.cons rfl (.cons rfl (.cons rfl (.cons rfl (.nil))))) (fun w' hw' => MayBeAt_spec ((Rd.row (i := 2) rfl) w' hw'))) ?_
              refine QOps.st rfl rfl (Yv.move rfl).yl ?_
              refine QOps.st rfl rfl (Yv.extract rfl rfl).yl ?_
              refine QOps.st rfl rfl (Yv.extract rfl rfl).yl ?_
              refine QOps.st rfl rfl (Yv.assign rfl).yl ?_
              refine QOps.st rfl rfl (Yv.assign rfl).yl ?_
              refine QOps.nil ?_
              refine Run.seq ?_
              refine Run.quiet (by intro h; cases h) ?_
              refine QOps.st rfl rfl (Yv.move rfl).yl ?_
              refine QOps.st rfl rfl (Yv.move rfl).yl ?_
              refine QOps.st rfl rfl (Yv.fieldAddr fld54_1 rfl).yl ?_
              refine QOps.st rfl rfl (Yv.loadB (i := 1) lay3 rfl rfl rfl rfl).yl ?_
              refine QOps.st rfl rfl (Yv.move rfl).yl ?_
              refine QOps.st rfl rfl (Yl.call callable24 (.cons rfl (.cons rfl (.cons rfl (.cons rfl (.nil))))) (fun w' hw' => MayBeAt_spec ((Rd.row (i := 2) rfl) w' hw'))) ?_
              refine QOps.st rfl rfl (Yv.move rfl).yl ?_
              refine QOps.st rfl rfl (Yv.extract rfl rfl).yl ?_
              refine QOps.st rfl rfl (Yv.extract rfl rfl).yl ?_
              refine QOps.st rfl rfl (Yv.assign rfl).yl ?_
              refine QOps.st rfl rfl (Yv.assign rfl).yl ?_
              refine QOps.nil ?_
              refine Run.seq ?_
              refine Run.quiet (fun _ => ⟨by kernel_rfl, by kernel_rfl⟩) ?_
              refine QOps.st rfl rfl (Yv.move rfl).yl ?_
              refine QOps.st rfl rfl (Yv.not rfl).yl ?_
              refine QOps.st rfl rfl (Yv.move rfl).yl ?_
              refine' QOps.or [_, _] _ (.tmp 180) rfl rfl rfl rfl rfl rfl (fun hg25 => ?_) ?_
              rotate_left
              · try replace hg25 := of_decide_eq_false hg25
                refine QOps.st rfl rfl (Yv.move rfl).yl ?_
                refine QOps.st rfl rfl (Yv.not rfl).yl ?_
                exact QOps.nil rfl
              refine QOps.st rfl rfl (Yv.move rfl).yl ?_
              refine' QOps.or [_, _] _ (.tmp 184) rfl rfl rfl rfl rfl rfl (fun hg26 => ?_) ?_
              rotate_left
              · try replace hg26 := of_decide_eq_false hg26
                refine QOps.st rfl rfl (Yv.move rfl).yl ?_
                refine QOps.st rfl rfl (Yv.not rfl).yl ?_
                exact QOps.nil rfl
              refine QOps.st rfl rfl (Yv.move rfl).yl ?_
              refine' QOps.or [_, _] _ (.tmp 188) rfl rfl rfl rfl rfl rfl (fun hg27 => ?_) ?_
              rotate_left
              · try replace hg27 := of_decide_eq_false hg27
                refine QOps.st rfl rfl (Yv.move rfl).yl ?_
                refine QOps.st rfl rfl (Yv.not rfl).yl ?_
                exact QOps.nil rfl
              refine QOps.st rfl rfl (Yv.move rfl).yl ?_
              refine' QOps.or [_, _, _, _, _, _, _] _ (.tmp 197) rfl rfl rfl rfl rfl rfl (fun hg28 => ?_) ?_
              rotate_left
              · try replace hg28 := of_decide_eq_false hg28
                refine QOps.st rfl rfl (Yv.fieldAddr fld54_0 rfl).yl ?_
                refine QOps.st rfl rfl (Yv.loadB (i := 1) lay3 rfl rfl rfl rfl).yl ?_
                refine QOps.st rfl rfl (Yv.move rfl).yl ?_
                refine QOps.st rfl rfl (Yv.indexAddr 0 el25 rfl rfl rfl (Rd.row (i := 2) rfl) (by omega)).yl ?_
                refine QOps.st rfl rfl (Yv.fieldAddr fld49_0 rfl).yl ?_
                refine QOps.st rfl rfl (Yv.loadF lay3 rfl Fix.len (Rd.row (i := 2) rfl) (by first | omega | (simp; omega)) (by decide) rfl).yl ?_
                refine QOps.st rfl rfl (Yv.lss rfl rfl).yl ?_
                exact QOps.nil rfl
              refine QOps.st rfl rfl (Yv.move rfl).yl ?_
              refine' QOps.or [_, _, _, _, _, _, _, _, _, _] _ (.tmp 209) rfl rfl rfl rfl rfl rfl (fun hg29 => ?_) ?_
              rotate_left
              · try replace hg29 := of_decide_eq_false hg29
                refine QOps.st rfl rfl (Yv.fieldAddr fld54_1 rfl).yl ?_
                refine QOps.st rfl rfl (Yv.loadB (i := 1) lay3 rfl rfl rfl rfl).yl ?_
                refine QOps.st rfl rfl (Yv.move rfl).yl ?_
                refine QOps.st rfl rfl (Yv.move rfl).yl ?_
                refine QOps.st rfl rfl (Yv.lenS el25s rfl).yl ?_
                refine QOps.st rfl rfl (Yv.sub rfl rfl (by omega)).yl ?_
                refine QOps.st rfl rfl (Yv.indexAddr (ya6.length - 1) el25 rfl rfl (by omega) (Rd.row (i := 2) rfl) (by omega)).yl ?_
                refine QOps.st rfl rfl (Yv.fieldAddr fld49_0 rfl).yl ?_
                refine QOps.st rfl rfl (Yv.loadF lay3 rfl Fix.len (Rd.row (i := 2) rfl) (by first | omega | (simp; omega)) (by decide) rfl).yl ?_
                refine QOps.st rfl rfl (Yv.gtr rfl rfl).yl ?_
                exact QOps.nil rfl
              refine QOps.st rfl rfl (Yv.move rfl).yl ?_
              refine' QOps.or [_, _, _] _ (.tmp 214) rfl rfl rfl rfl rfl rfl (fun hg30 => ?_) ?_
              rotate_left
              · try replace hg30 := of_decide_eq_false hg30
                refine QOps.st rfl rfl (Yv.loadBs (i := 1) lay54 rfl rfl rfl rfl).yl ?_
                refine QOps.st rfl rfl (Yl.call callable44 (.cons rfl (.nil)) (fun w' hw' => IsInterval_spec (i := ⟨_, _⟩))) ?_
                refine QOps.st rfl rfl (Yv.not rfl).yl ?_
                exact QOps.nil rfl
              refine QOps.nil ?_
              refine Run.cond rfl (fun hc15 => ?_) (fun hc15 => ?_)
              · exfalso
                simp [hP.first_, hP.last_, hPi] at hc15 <;> omega
              · try replace hc15 := of_decide_eq_false hc15
                refine Run.skip ?_
                refine Run.seq ?_
                refine Run.ops ?_
                refine SOps.st rfl rfl (Yv.move rfl).yl ?_
                refine SOps.one rfl (One.callER2 rfl callable45 (.cons rfl (.nil)) (fun w' hw' => DrawMayMeet_spec ((Rd.arg hs) w' hw')) ?_)
                rintro ⟨ya7, yb7, yd7, ye7⟩ Aq7 cq7 Bq7 dq7 ⟨hx7, hy7⟩
                dsimp only at *
                refine SOps.st rfl rfl (Yv.move rfl).yl ?_
                refine SOps.st rfl rfl (Yv.extract rfl rfl).yl ?_
                refine SOps.st rfl rfl (Yv.extract rfl rfl).yl ?_
                refine SOps.st rfl rfl (Yv.extract rfl rfl).yl ?_
                refine SOps.st rfl rfl (Yv.extract rfl rfl).yl ?_
                refine SOps.st rfl rfl (Yv.assign rfl).yl ?_
                refine SOps.st rfl rfl (Yv.assign rfl).yl ?_
                refine SOps.st rfl rfl (Yv.assign rfl).yl ?_
                refine SOps.st rfl rfl (Yv.assign rfl).yl ?_
                refine SOps.nil ?_
                refine Run.seq ?_
                refine Run.quiet (by intro h; cases h) ?_
                refine QOps.st rfl rfl (Yv.move rfl).yl ?_
                refine QOps.st rfl rfl (Yv.move rfl).yl ?_
                refine QOps.st rfl rfl (Yv.move rfl).yl ?_
                refine QOps.st rfl rfl (Yv.move rfl).yl ?_
                refine QOps.st rfl rfl (Yl.call callable31 (.cons rfl (.cons rfl (.cons rfl (.cons rfl (.nil))))) (fun w' hw' => MayMeet_spec ((Rd.row (i := 0) rfl) w' hw') ((Rd.row (i := 1) rfl) w' hw'))) ?_
                refine QOps.st rfl rfl (Yv.move rfl).yl ?_
                refine QOps.st rfl rfl (Yv.extract rfl rfl).yl ?_
                refine QOps.st rfl rfl (Yv.extract rfl rfl).yl ?_
                refine QOps.st rfl rfl (Yv.assign rfl).yl ?_
                refine QOps.st rfl rfl (Yv.assign rfl).yl ?_
                refine QOps.nil ?_
                refine Run.seq ?_
                refine Run.seq ?_
                refine Run.quiet (by intro h; cases h) ?_
                refine QOps.st rfl rfl (Yv.move rfl).yl ?_
                refine QOps.st rfl rfl (Yv.move rfl).yl ?_
                refine QOps.st rfl rfl (Yv.move rfl).yl ?_
                refine QOps.st rfl rfl (Yv.move rfl).yl ?_
                refine QOps.st rfl rfl (Yl.call callable30 (.cons rfl (.cons rfl (.cons rfl (.cons rfl (.nil))))) (fun w' hw' => sMayMeet_spec ((Rd.row (i := 0) rfl) w' hw') ((Rd.row (i := 1) rfl) w' hw'))) ?_
                refine QOps.st rfl rfl (Yv.move rfl).yl ?_
                refine QOps.st rfl rfl (Yv.extract rfl rfl).yl ?_
                refine QOps.st rfl rfl (Yv.extract rfl rfl).yl ?_
                refine QOps.st rfl rfl (Yv.assign rfl).yl ?_
                refine QOps.st rfl rfl (Yv.assign rfl).yl ?_
                refine QOps.nil ?_
                refine Run.seq ?_
                refine Run.quiet (by intro h; cases h) ?_
                refine QOps.st rfl rfl (Yv.move rfl).yl ?_
                refine QOps.st rfl rfl (Yv.move rfl).yl ?_
                refine QOps.st rfl rfl (Yv.neB bool4 rfl rfl).yl ?_
                refine QOps.st rfl rfl (Yv.move rfl).yl ?_
                refine' QOps.or [_, _, _] _ (.tmp 245) rfl rfl rfl rfl rfl rfl (fun hg31 => ?_) ?_
                rotate_left
                · try replace hg31 := of_decide_eq_false hg31
                  refine QOps.st rfl rfl (Yv.move rfl).yl ?_
                  refine QOps.st rfl rfl (Yv.move rfl).yl ?_
                  refine QOps.st rfl rfl (Yv.neB bool4 rfl rfl).yl ?_
                  exact QOps.nil rfl
                refine QOps.nil ?_
                refine Run.cond rfl (fun hc16 => ?_) (fun hc16 => ?_)
                · exfalso
                  simp at hc16
                · try replace hc16 := of_decide_eq_false hc16
                  refine Run.skip ?_
                  refine Run.seq ?_
                  refine Run.seq ?_
                  refine Run.quiet (by intro h; cases h) ?_
                  refine QOps.st rfl rfl (Yv.move rfl).yl ?_
                  refine QOps.nil ?_
                  refine Run.cond rfl (fun hc17 => ?_) (fun hc17 => ?_)
                  · try replace hc17 := of_decide_eq_true hc17
                    have hM := met hc17
                    refine Run.seq ?_
                    refine Run.quiet (by intro h; cases h) ?_
                    refine QOps.st rfl rfl (Yv.move rfl).yl ?_
                    refine QOps.st rfl rfl (Yv.move rfl).yl ?_
                    refine QOps.st rfl rfl (Yv.move rfl).yl ?_
                    refine QOps.st rfl rfl (Yv.move rfl).yl ?_
                    refine QOps.st rfl rfl (Yl.call callable31 (.cons rfl (.cons rfl (.cons rfl (.cons rfl (.nil))))) (fun w' hw' => MayMeet_spec ((Rd.row (i := 1) rfl) w' hw') ((Rd.row (i := 0) rfl) w' hw'))) ?_
                    refine QOps.st rfl rfl (Yv.move rfl).yl ?_
                    refine QOps.st rfl rfl (Yv.extract rfl rfl).yl ?_
                    refine QOps.st rfl rfl (Yv.extract rfl rfl).yl ?_
                    refine QOps.st rfl rfl (Yv.assign rfl).yl ?_
                    refine QOps.st rfl rfl (Yv.assign rfl).yl ?_
                    refine QOps.nil ?_
                    refine Run.seq ?_
                    refine Run.ops ?_
                    refine SOps.st rfl rfl (Yv.move rfl).yl ?_
                    refine SOps.st rfl rfl (Yv.move rfl).yl ?_
                    refine SOps.st rfl rfl (Yv.move rfl).yl ?_
                    refine SOps.st rfl rfl (Yl.call callable26 (.cons rfl (.cons rfl (.cons rfl (.nil)))) (fun w' hw' => SpanAt_spec ((Rd.row (i := 0) rfl) w' hw'))) ?_
                    refine SOps.st rfl rfl (Yv.move rfl).yl ?_
                    refine SOps.st rfl rfl (Yv.extract rfl rfl).yl ?_
                    refine SOps.st rfl rfl (Yv.extract rfl rfl).yl ?_
                    refine SOps.one rfl (One.alloc rfl zero37 (fun b10 => ?_))
                    refine SOps.one rfl (One.store (i := 0) (off := 0) (vs := [_, _]) (cs' := [_, _]) (H' := [_, _, _, _, _, _, _, _, _, _]) lay37 rfl rfl rfl rfl rfl rfl rfl rfl rfl rfl ?_)
                    refine SOps.st rfl rfl (Yv.assign rfl).yl ?_
                    refine SOps.nil ?_
                    refine Run.seq ?_
                    refine Run.quiet (by intro h; cases h) ?_
                    refine QOps.st rfl rfl (Yv.move rfl).yl ?_
                    refine QOps.st rfl rfl (Yv.move rfl).yl ?_
                    refine QOps.st rfl rfl (Yv.move rfl).yl ?_
                    refine QOps.st rfl rfl (Yv.move rfl).yl ?_
                    refine QOps.st rfl rfl (Yl.call callable31 (.cons rfl (.cons rfl (.cons rfl (.cons rfl (.nil))))) (fun w' hw' => MayMeet_spec ((Rd.row (i := 1) rfl) w' hw') ((Rd.row (i := 1) rfl) w' hw'))) ?_
                    refine QOps.st rfl rfl (Yv.move rfl).yl ?_
                    refine QOps.st rfl rfl (Yv.extract rfl rfl).yl ?_
                    refine QOps.st rfl rfl (Yv.extract rfl rfl).yl ?_
                    refine QOps.st rfl rfl (Yv.assign rfl).yl ?_
                    refine QOps.st rfl rfl (Yv.assign rfl).yl ?_
                    refine QOps.nil ?_
                    refine Run.seq ?_
                    refine Run.quiet (by intro h; cases h) ?_
                    refine QOps.st rfl rfl (Yv.move rfl).yl ?_
                    refine QOps.st rfl rfl (Yv.move rfl).yl ?_
                    refine' QOps.and [_, _, _] _ (.tmp 275) rfl rfl rfl rfl rfl rfl (fun hg32 => ?_) ?_
                    rotate_left
                    · try replace hg32 := of_decide_eq_true hg32
                      refine QOps.st rfl rfl (Yv.move rfl).yl ?_
                      refine QOps.st rfl rfl (Yv.move rfl).yl ?_
                      refine QOps.st rfl rfl (Yv.eqB bool4 rfl rfl).yl ?_
                      exact QOps.nil rfl
                    refine QOps.st rfl rfl (Yv.move rfl).yl ?_
                    refine' QOps.and [_] _ (.tmp 278) rfl rfl rfl rfl rfl rfl (fun hg33 => ?_) ?_
                    rotate_left
                    · try replace hg33 := of_decide_eq_true hg33
                      refine QOps.st rfl rfl (Yv.move rfl).yl ?_
                      exact QOps.nil rfl
                    refine QOps.st rfl rfl (Yv.move rfl).yl ?_
                    refine' QOps.and [_, _, _] _ (.tmp 283) rfl rfl rfl rfl rfl rfl (fun hg34 => ?_) ?_
                    rotate_left
                    · try replace hg34 := of_decide_eq_true hg34
                      refine QOps.st rfl rfl (Yv.move rfl).yl ?_
                      refine QOps.st rfl rfl (Yv.move rfl).yl ?_
                      refine QOps.st rfl rfl (Yv.eqB bool4 rfl rfl).yl ?_
                      exact QOps.nil rfl
                    refine QOps.st rfl rfl (Yv.move rfl).yl ?_
                    refine' QOps.and [_, _, _, _, _] _ (.tmp 290) rfl rfl rfl rfl rfl rfl (fun hg35 => ?_) ?_
                    rotate_left
                    · try replace hg35 := of_decide_eq_true hg35
                      refine QOps.st rfl rfl (Yv.move rfl).yl ?_
                      refine QOps.st rfl rfl (Yv.not rfl).yl ?_
                      refine QOps.st rfl rfl (Yv.move rfl).yl ?_
                      refine' QOps.or [_] _ (.tmp 289) rfl rfl rfl rfl rfl rfl (fun hg36 => ?_) ?_
                      rotate_left
                      · try replace hg36 := of_decide_eq_false hg36
                        refine QOps.st rfl rfl (Yv.move rfl).yl ?_
                        exact QOps.nil rfl
                      exact QOps.nil rfl
                    refine QOps.st rfl rfl (Yv.assign rfl).yl ?_
                    refine QOps.nil ?_
                    refine Run.ret ?_
                    refine retQ.of (.inr rfl) rfl (.tmp rfl .nil) (fun w' hw' => ?_)
                    refine ⟨?_, hw'.bel.below⟩
                    refine retB_eq ?_
                    first | rfl | (have hMb := hM.both; simp only [hM.is_, hM.back, hM.self]; revert hMb; cases meetIs _ _ _ _ <;> cases (spanOf _ _ _).2 <;> simp)
                  · try replace hc17 := of_decide_eq_false hc17
                    refine Run.skip ?_
                    refine Run.seq ?_
                    refine Run.quiet (by intro h; cases h) ?_
                    refine QOps.st rfl rfl (Yv.assign rfl).yl ?_
                    refine QOps.nil ?_
                    refine Run.ret ?_
                    refine retQ.of (.inr rfl) rfl (.tmp rfl .nil) (fun w' hw' => ?_)
                    refine ⟨?_, hw'.bel.below⟩
                    refine retB_eq ?_
                    first | rfl | (have hMb := hM.both; simp only [hM.is_, hM.back, hM.self]; revert hMb; cases meetIs _ _ _ _ <;> cases (spanOf _ _ _).2 <;> simp)
            · try replace hc14 := of_decide_eq_false hc14
              refine Run.skip ?_
              refine Run.seq ?_
              refine Run.ops ?_
              refine SOps.st rfl rfl (Yv.move rfl).yl ?_
              refine SOps.one rfl (One.callER2 rfl callable45 (.cons rfl (.nil)) (fun w' hw' => DrawMayMeet_spec ((Rd.arg hs) w' hw')) ?_)
              rintro ⟨ya8, yb8, yd8, ye8⟩ Aq8 cq8 Bq8 dq8 ⟨hx8, hy8⟩
              dsimp only at *
              refine SOps.st rfl rfl (Yv.move rfl).yl ?_
              refine SOps.st rfl rfl (Yv.extract rfl rfl).yl ?_
              refine SOps.st rfl rfl (Yv.extract rfl rfl).yl ?_
              refine SOps.st rfl rfl (Yv.extract rfl rfl).yl ?_
              refine SOps.st rfl rfl (Yv.extract rfl rfl).yl ?_
              refine SOps.st rfl rfl (Yv.assign rfl).yl ?_
              refine SOps.st rfl rfl (Yv.assign rfl).yl ?_
              refine SOps.st rfl rfl (Yv.assign rfl).yl ?_
              refine SOps.st rfl rfl (Yv.assign rfl).yl ?_
              refine SOps.nil ?_
              refine Run.seq ?_
              refine Run.quiet (by intro h; cases h) ?_
              refine QOps.st rfl rfl (Yv.move rfl).yl ?_
              refine QOps.st rfl rfl (Yv.move rfl).yl ?_
              refine QOps.st rfl rfl (Yv.move rfl).yl ?_
              refine QOps.st rfl rfl (Yv.move rfl).yl ?_
              refine QOps.st rfl rfl (Yl.call callable31 (.cons rfl (.cons rfl (.cons rfl (.cons rfl (.nil))))) (fun w' hw' => MayMeet_spec ((Rd.row (i := 0) rfl) w' hw') ((Rd.row (i := 1) rfl) w' hw'))) ?_
              refine QOps.st rfl rfl (Yv.move rfl).yl ?_
              refine QOps.st rfl rfl (Yv.extract rfl rfl).yl ?_
              refine QOps.st rfl rfl (Yv.extract rfl rfl).yl ?_
              refine QOps.st rfl rfl (Yv.assign rfl).yl ?_
              refine QOps.st rfl rfl (Yv.assign rfl).yl ?_
              refine QOps.nil ?_
              refine Run.seq ?_
              refine Run.seq ?_
              refine Run.quiet (by intro h; cases h) ?_
              refine QOps.st rfl rfl (Yv.move rfl).yl ?_
              refine QOps.st rfl rfl (Yv.move rfl).yl ?_
              refine QOps.st rfl rfl (Yv.move rfl).yl ?_
              refine QOps.st rfl rfl (Yv.move rfl).yl ?_
              refine QOps.st rfl rfl (Yl.call callable30 (.cons rfl (.cons rfl (.cons rfl (.cons rfl (.nil))))) (fun w' hw' => sMayMeet_spec ((Rd.row (i := 0) rfl) w' hw') ((Rd.row (i := 1) rfl) w' hw'))) ?_
              refine QOps.st rfl rfl (Yv.move rfl).yl ?_
              refine QOps.st rfl rfl (Yv.extract rfl rfl).yl ?_
              refine QOps.st rfl rfl (Yv.extract rfl rfl).yl ?_
              refine QOps.st rfl rfl (Yv.assign rfl).yl ?_
              refine QOps.st rfl rfl (Yv.assign rfl).yl ?_
              refine QOps.nil ?_
              refine Run.seq ?_
              refine Run.quiet (by intro h; cases h) ?_
              refine QOps.st rfl rfl (Yv.move rfl).yl ?_
              refine QOps.st rfl rfl (Yv.move rfl).yl ?_
              refine QOps.st rfl rfl (Yv.neB bool4 rfl rfl).yl ?_
              refine QOps.st rfl rfl (Yv.move rfl).yl ?_
              refine' QOps.or [_, _, _] _ (.tmp 245) rfl rfl rfl rfl rfl rfl (fun hg37 => ?_) ?_
              rotate_left
              · try replace hg37 := of_decide_eq_false hg37
                refine QOps.st rfl rfl (Yv.move rfl).yl ?_
                refine QOps.st rfl rfl (Yv.move rfl).yl ?_
                refine QOps.st rfl rfl (Yv.neB bool4 rfl rfl).yl ?_
                exact QOps.nil rfl
              refine QOps.nil ?_
              refine Run.cond rfl (fun hc18 => ?_) (fun hc18 => ?_)
              · exfalso
                simp at hc18
              · try replace hc18 := of_decide_eq_false hc18
                refine Run.skip ?_
                refine Run.seq ?_
                refine Run.seq ?_
                refine Run.quiet (by intro h; cases h) ?_
                refine QOps.st rfl rfl (Yv.move rfl).yl ?_
                refine QOps.nil ?_
                refine Run.cond rfl (fun hc19 => ?_) (fun hc19 => ?_)
                · try replace hc19 := of_decide_eq_true hc19
                  have hM := met hc19
                  refine Run.seq ?_
                  refine Run.quiet (by intro h; cases h) ?_
                  refine QOps.st rfl rfl (Yv.move rfl).yl ?_
                  refine QOps.st rfl rfl (Yv.move rfl).yl ?_
                  refine QOps.st rfl rfl (Yv.move rfl).yl ?_
                  refine QOps.st rfl rfl (Yv.move rfl).yl ?_
                  refine QOps.st rfl rfl (Yl.call callable31 (.cons rfl (.cons rfl (.cons rfl (.cons rfl (.nil))))) (fun w' hw' => MayMeet_spec ((Rd.row (i := 1) rfl) w' hw') ((Rd.row (i := 0) rfl) w' hw'))) ?_
                  refine QOps.st rfl rfl (Yv.move rfl).yl ?_
                  refine QOps.st rfl rfl (Yv.extract rfl rfl).yl ?_
                  refine QOps.st rfl rfl (Yv.extract rfl rfl).yl ?_
                  refine QOps.st rfl rfl (Yv.assign rfl).yl ?_
                  refine QOps.st rfl rfl (Yv.assign rfl).yl ?_
                  refine QOps.nil ?_
                  refine Run.seq ?_
                  refine Run.ops ?_
                  refine SOps.st rfl rfl (Yv.move rfl).yl ?_
                  refine SOps.st rfl rfl (Yv.move rfl).yl ?_
                  refine SOps.st rfl rfl (Yv.move rfl).yl ?_
                  refine SOps.st rfl rfl (Yl.call callable26 (.cons rfl (.cons rfl (.cons rfl (.nil)))) (fun w' hw' => SpanAt_spec ((Rd.row (i := 0) rfl) w' hw'))) ?_
                  refine SOps.st rfl rfl (Yv.move rfl).yl ?_
                  refine SOps.st rfl rfl (Yv.extract rfl rfl).yl ?_
                  refine SOps.st rfl rfl (Yv.extract rfl rfl).yl ?_
                  refine SOps.one rfl (One.alloc rfl zero37 (fun b11 => ?_))
                  refine SOps.one rfl (One.store (i := 0) (off := 0) (vs := [_, _]) (cs' := [_, _]) (H' := [_, _, _, _, _, _, _, _, _, _]) lay37 rfl rfl rfl rfl rfl rfl rfl rfl rfl rfl ?_)
                  refine SOps.st rfl rfl (Yv.assign rfl).yl ?_
                  refine SOps.nil ?_
                  refine Run.seq ?_
                  refine Run.quiet (by intro h; cases h) ?_
                  refine QOps.st rfl rfl (Yv.move rfl).yl ?_
                  refine QOps.st rfl rfl (Yv.move rfl).yl ?_
                  refine QOps.st rfl rfl (Yv.move rfl).yl ?_
                  refine QOps.st rfl rfl (Yv.move rfl).yl ?_
                  refine QOps.st rfl rfl (Yl.call callable31 (.cons rfl (.cons rfl (.cons rfl (.cons rfl (.nil))))) (fun w' hw' => MayMeet_spec ((Rd.row (i := 1) rfl) w' hw') ((Rd.row (i := 1) rfl) w' hw'))) ?_
                  refine QOps.st rfl rfl (Yv.move rfl).yl ?_
                  refine QOps.st rfl rfl (Yv.extract rfl rfl).yl ?_
                  refine QOps.st rfl rfl (Yv.extract rfl rfl).yl ?_
                  refine QOps.st rfl rfl (Yv.assign rfl).yl ?_
                  refine QOps.st rfl rfl (Yv.assign rfl).yl ?_
                  refine QOps.nil ?_
                  refine Run.seq ?_
                  refine Run.quiet (by intro h; cases h) ?_
                  refine QOps.st rfl rfl (Yv.move rfl).yl ?_
                  refine QOps.st rfl rfl (Yv.move rfl).yl ?_
                  refine' QOps.and [_, _, _] _ (.tmp 275) rfl rfl rfl rfl rfl rfl (fun hg38 => ?_) ?_
                  rotate_left
                  · try replace hg38 := of_decide_eq_true hg38
                    refine QOps.st rfl rfl (Yv.move rfl).yl ?_
                    refine QOps.st rfl rfl (Yv.move rfl).yl ?_
                    refine QOps.st rfl rfl (Yv.eqB bool4 rfl rfl).yl ?_
                    exact QOps.nil rfl
                  refine QOps.st rfl rfl (Yv.move rfl).yl ?_
                  refine' QOps.and [_] _ (.tmp 278) rfl rfl rfl rfl rfl rfl (fun hg39 => ?_) ?_
                  rotate_left
                  · try replace hg39 := of_decide_eq_true hg39
                    refine QOps.st rfl rfl (Yv.move rfl).yl ?_
                    exact QOps.nil rfl
                  refine QOps.st rfl rfl (Yv.move rfl).yl ?_
                  refine' QOps.and [_, _, _] _ (.tmp 283) rfl rfl rfl rfl rfl rfl (fun hg40 => ?_) ?_
                  rotate_left
                  · try replace hg40 := of_decide_eq_true hg40
                    refine QOps.st rfl rfl (Yv.move rfl).yl ?_
                    refine QOps.st rfl rfl (Yv.move rfl).yl ?_
                    refine QOps.st rfl rfl (Yv.eqB bool4 rfl rfl).yl ?_
                    exact QOps.nil rfl
                  refine QOps.st rfl rfl (Yv.move rfl).yl ?_
                  refine' QOps.and [_, _, _, _, _] _ (.tmp 290) rfl rfl rfl rfl rfl rfl (fun hg41 => ?_) ?_
                  rotate_left
                  · try replace hg41 := of_decide_eq_true hg41
                    refine QOps.st rfl rfl (Yv.move rfl).yl ?_
                    refine QOps.st rfl rfl (Yv.not rfl).yl ?_
                    refine QOps.st rfl rfl (Yv.move rfl).yl ?_
                    refine' QOps.or [_] _ (.tmp 289) rfl rfl rfl rfl rfl rfl (fun hg42 => ?_) ?_
                    rotate_left
                    · try replace hg42 := of_decide_eq_false hg42
                      refine QOps.st rfl rfl (Yv.move rfl).yl ?_
                      exact QOps.nil rfl
                    exact QOps.nil rfl
                  refine QOps.st rfl rfl (Yv.assign rfl).yl ?_
                  refine QOps.nil ?_
                  refine Run.ret ?_
                  refine retQ.of (.inr rfl) rfl (.tmp rfl .nil) (fun w' hw' => ?_)
                  refine ⟨?_, hw'.bel.below⟩
                  refine retB_eq ?_
                  first | rfl | (have hMb := hM.both; simp only [hM.is_, hM.back, hM.self]; revert hMb; cases meetIs _ _ _ _ <;> cases (spanOf _ _ _).2 <;> simp)
                · try replace hc19 := of_decide_eq_false hc19
                  refine Run.skip ?_
                  refine Run.seq ?_
                  refine Run.quiet (by intro h; cases h) ?_
                  refine QOps.st rfl rfl (Yv.assign rfl).yl ?_
                  refine QOps.nil ?_
                  refine Run.ret ?_
                  refine retQ.of (.inr rfl) rfl (.tmp rfl .nil) (fun w' hw' => ?_)
                  refine ⟨?_, hw'.bel.below⟩
                  refine retB_eq ?_
                  first | rfl | (have hMb := hM.both; simp only [hM.is_, hM.back, hM.self]; revert hMb; cases meetIs _ _ _ _ <;> cases (spanOf _ _ _).2 <;> simp)
end Go.Proofs.Ytliealfihglkmaa
