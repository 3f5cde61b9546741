/- The law FnTugs, walked. Conditions: none. -/
import Derived.Test.YtkkmmbogeeopaaaMixG
namespace Go.Proofs.Ytkkmmbogeeopaaa
open Go.RowKit
set_option maxRecDepth 100000
section
variable {ts : List Tug} {js : List Job} {who : List Int}
theorem waits_plan (h : (waitsOf ts js who).2 = true) : planOk ts js who = true ∧ (waitsOf ts js who).1 = (dayTo ts js who js.length).waits := by
  unfold waitsOf at h ⊢
  split at h
  · rename_i h1
    rw [if_pos h1]
    exact ⟨h1, rfl⟩
  · cases h
theorem waits_nonneg : ¬ (waitsOf ts js who).1 < 0 := by
  unfold waitsOf
  split
  · rename_i h
    have hP := plan_is h
    have := (day_in (who := who) hP.tugs hP.jobs (Nat.le_refl js.length)).waits
    dsimp only
    omega
  · simp
theorem best_law (h : (waitsOf ts js who).2 = true) : (bestOf ts js).2.2 = true ∧ (bestOf ts js).2.1 ≤ (waitsOf ts js who).1 := by
  obtain ⟨h1, h2⟩ := waits_plan h
  rw [h2]
  exact best_least h1
theorem best_waits (h : (bestOf ts js).2.2 = true) : waitsOf ts js (bestOf ts js).1 = ((bestOf ts js).2.1, true) := by
  obtain ⟨h1, h2⟩ := best_plan h
  unfold waitsOf
  rw [if_pos h1, h2]
theorem ends_waits : (endsOf ts js who).2 = (waitsOf ts js who).2 := by unfold endsOf waitsOf; split <;> rfl
theorem last_waits : (lastOf ts js who).2 = (waitsOf ts js who).2 := by unfold lastOf waitsOf; split <;> rfl
/-- What is known of a job that is done. -/
structure DoneAt (ts : List Tug) (js : List Job) (who : List Int) (k : Nat) : Prop where
  len : k < js.length ∧ js.length ≤ 5
  job : (0 ≤ (nth js k).src ∧ (nth js k).src ≤ 600) ∧ (0 ≤ (nth js k).dst ∧ (nth js k).dst ≤ 600) ∧ (0 ≤ (nth js k).ready ∧ (nth js k).ready ≤ 500)
  waits : 0 ≤ (dayTo ts js who k).waits ∧ (dayTo ts js who k).waits ≤ 100000
  ends : (nth js k).ready + towAt js k ≤ nth (endsOf ts js who).1 k ∧ nth (endsOf ts js who).1 k ≤ 20000 ∧ nth (endsOf ts js who).1 k ≤ (lastOf ts js who).1
  next : (dayTo ts js who k).waits + nth (endsOf ts js who).1 k - towAt js k - (nth js k).ready = (dayTo ts js who (k + 1)).waits
  fwd : ¬ (nth js k).dst - (nth js k).src < 0 → towAt js k = (nth js k).dst - (nth js k).src
  bwd : (nth js k).dst - (nth js k).src < 0 → towAt js k = -((nth js k).dst - (nth js k).src)
theorem done_at {k : Nat} (h : k < (endsOf ts js who).1.length) : DoneAt ts js who k := by
  have hp : planOk ts js who = true := by
    unfold endsOf at h
    split at h
    · assumption
    · simp at h
  have e : (endsOf ts js who).1 = (dayTo ts js who js.length).ends := by unfold endsOf; rw [if_pos hp]
  have e2 : (lastOf ts js who).1 = maxTo (dayTo ts js who js.length).ends js.length := by unfold lastOf; rw [if_pos hp]
  have hP := plan_is hp
  rw [e, ends_len] at h
  have hjl := hP.jobs.len
  have hje := hP.jobs.each k h
  have hin := day_in (who := who) hP.tugs hP.jobs (show k ≤ js.length by omega)
  obtain ⟨b1, b2, b3, b4, b5, b6⟩ := begin_in (who := who) hP.jobs h hin
  have hen := ends_at (ts := ts) (js := js) (who := who) ends_len h
  have hmx := maxTo_ge (l := (dayTo ts js who js.length).ends) h
  have hwt := hin.waits
  refine ⟨⟨h, hjl⟩, ⟨hje.1, hje.2.1, hje.2.2.2⟩, by omega, ?_, ?_, fun h9 => ?_, fun h9 => ?_⟩
  · rw [e, e2, hen] at *
    omega
  · rw [waits_next, e, hen]
    omega
  · unfold towAt nearAbs absI
    split <;> omega
  · unfold towAt nearAbs absI
    split <;> omega
theorem waits_end {k : Nat} (h : k = (endsOf ts js who).1.length) : (!(waitsOf ts js who).2 || decide ((dayTo ts js who k).waits = (waitsOf ts js who).1)) = true := by
  cases hw : (waitsOf ts js who).2 with
  | false => rfl
  | true =>
    obtain ⟨h1, h2⟩ := waits_plan hw
    have e : (endsOf ts js who).1 = (dayTo ts js who js.length).ends := by unfold endsOf; rw [if_pos h1]
    rw [e, ends_len] at h
    rw [h, h2]
    simp
end
theorem FnTugs_spec {w : World} {A : Option Addr} {c : Nat} {xs : List UInt8} (hs : Sl w 1 A xs.length c (xs.flatMap byteC)) (_hb : 1 * xs.length ≤ 281474976710656) : Calls Try.prog 8 #[.slice A xs.length c] w (RetB w (.bool true)) := by
  refine calls_of_run (vs := [_]) (L := [(0, _)]) (n := 235) (F := []) (H := []) Try.func8 rfl rfl rfl rfl (HOk.start _) ?_
  refine Run.seq ?_
  refine Run.quiet (by intro h; cases h) ?_
  refine QOps.st rfl rfl (Yv.assign rfl).yl ?_
  refine QOps.nil ?_
  refine Run.seq ?_
  refine Run.seq ?_
  refine Run.quiet (by intro h; cases h) ?_
  refine QOps.st rfl rfl (Yv.move rfl).yl ?_
  refine QOps.st rfl rfl (Yl.call callable20 (.cons rfl (.nil)) (fun w' hw' => rBig_spec)) ?_
  refine QOps.nil ?_
  refine Run.cond rfl (fun hc1 => ?_) (fun hc1 => ?_)
  · try replace hc1 := of_decide_eq_true hc1
    refine Run.seq ?_
    refine Run.quiet (by intro h; cases h) ?_
    refine QOps.st rfl rfl (Yv.assign rfl).yl ?_
    refine QOps.nil ?_
    refine Run.ret ?_
    refine retQ.of (.inr rfl) rfl (.tmp rfl .nil) (fun w' hw' => ?_)
    refine ⟨?_, hw'.bel.below⟩
    exact rfl
  · try replace hc1 := of_decide_eq_false hc1
    refine Run.skip ?_
    refine Run.seq ?_
    refine Run.ops ?_
    refine SOps.st rfl rfl (Yv.move rfl).yl ?_
    refine SOps.one rfl (One.callH (E := []) (H1 := []) rfl callable38 (.cons rfl (.nil)) [] rfl rfl (fun w' hw' => DrawWaitingTicks_spec ((Rd.arg hs) w' hw')) ?_)
    rintro ⟨At1, ct1, ts1, Aj1, cj1, js1, Aw1, cw1, who1, id1⟩ ⟨hts1, hjs1, hwh1⟩
    dsimp only at hts1 hjs1 hwh1
    refine SOps.st rfl rfl (Yv.move rfl).yl ?_
    refine SOps.st rfl rfl (Yv.extract rfl rfl).yl ?_
    refine SOps.st rfl rfl (Yv.extract rfl rfl).yl ?_
    refine SOps.st rfl rfl (Yv.extract rfl rfl).yl ?_
    refine SOps.st rfl rfl (Yv.assign rfl).yl ?_
    refine SOps.st rfl rfl (Yv.assign rfl).yl ?_
    refine SOps.st rfl rfl (Yv.assign rfl).yl ?_
    refine SOps.nil ?_
    refine Run.seq ?_
    refine Run.quiet (by intro h; cases h) ?_
    refine QOps.st rfl rfl (Yv.move rfl).yl ?_
    refine QOps.st rfl rfl (Yv.move rfl).yl ?_
    refine QOps.st rfl rfl (Yv.move rfl).yl ?_
    refine QOps.st rfl rfl (Yl.call callable39 (.cons rfl (.cons rfl (.cons rfl (.nil)))) (fun w' hw' => WaitingTicks_spec ((Rd.row (i := 2) rfl) w' hw') ((Rd.row (i := 1) rfl) w' hw') ((Rd.row (i := 0) rfl) w' hw'))) ?_
    refine QOps.st rfl rfl (Yv.move rfl).yl ?_
    refine QOps.st rfl rfl (Yv.extract rfl rfl).yl ?_
    refine QOps.st rfl rfl (Yv.extract rfl rfl).yl ?_
    refine QOps.st rfl rfl (Yv.assign rfl).yl ?_
    refine QOps.st rfl rfl (Yv.assign rfl).yl ?_
    refine QOps.nil ?_
    refine Run.seq ?_
    refine Run.seq ?_
    refine Run.quiet (by intro h; cases h) ?_
    refine QOps.st rfl rfl (Yv.move rfl).yl ?_
    refine QOps.st rfl rfl (Yv.move rfl).yl ?_
    refine QOps.st rfl rfl (Yv.move rfl).yl ?_
    refine QOps.st rfl rfl (Yl.call callable40 (.cons rfl (.cons rfl (.cons rfl (.nil)))) (fun w' hw' => sWaitingTicks_spec ((Rd.row (i := 2) rfl) w' hw') ((Rd.row (i := 1) rfl) w' hw') ((Rd.row (i := 0) rfl) w' hw'))) ?_
    refine QOps.st rfl rfl (Yv.move rfl).yl ?_
    refine QOps.st rfl rfl (Yv.extract rfl rfl).yl ?_
    refine QOps.st rfl rfl (Yv.extract rfl rfl).yl ?_
    refine QOps.st rfl rfl (Yv.assign rfl).yl ?_
    refine QOps.st rfl rfl (Yv.assign rfl).yl ?_
    refine QOps.nil ?_
    refine Run.seq ?_
    refine Run.quiet (by intro h; cases h) ?_
    refine QOps.st rfl rfl (Yv.move rfl).yl ?_
    refine QOps.st rfl rfl (Yv.move rfl).yl ?_
    refine QOps.st rfl rfl (Yv.neI rfl rfl).yl ?_
    refine QOps.st rfl rfl (Yv.move rfl).yl ?_
    refine' QOps.or [_, _, _] _ (.tmp 57) rfl rfl rfl rfl rfl rfl (fun hg1 => ?_) ?_
    rotate_left
    · try replace hg1 := of_decide_eq_false hg1
      refine QOps.st rfl rfl (Yv.move rfl).yl ?_
      refine QOps.st rfl rfl (Yv.move rfl).yl ?_
      refine QOps.st rfl rfl (Yv.neB bool4 rfl rfl).yl ?_
      exact QOps.nil rfl
    refine QOps.st rfl rfl (Yv.move rfl).yl ?_
    refine' QOps.or [_, _] _ (.tmp 61) rfl rfl rfl rfl rfl rfl (fun hg2 => ?_) ?_
    rotate_left
    · try replace hg2 := of_decide_eq_false hg2
      refine QOps.st rfl rfl (Yv.move rfl).yl ?_
      refine QOps.st rfl rfl (Yv.lss rfl rfl).yl ?_
      exact QOps.nil rfl
    refine QOps.nil ?_
    refine Run.cond rfl (fun hc2 => ?_) (fun hc2 => ?_)
    · exfalso
      have h9 := waits_nonneg (ts := ts1) (js := js1) (who := who1)
      simp at hc2
      omega
    · try replace hc2 := of_decide_eq_false hc2
      refine Run.skip ?_
      refine Run.seq ?_
      refine Run.ops ?_
      refine SOps.st rfl rfl (Yv.move rfl).yl ?_
      refine SOps.st rfl rfl (Yv.move rfl).yl ?_
      refine SOps.one rfl (One.callRow rfl callable41 (.cons rfl (.cons rfl (.nil))) (fun w' hw' => BestTugs_spec ((Rd.row (i := 2) rfl) w' hw') ((Rd.row (i := 1) rfl) w' hw')) (fun A31 c31 => ?_))
      refine SOps.st rfl rfl (Yv.move rfl).yl ?_
      refine SOps.st rfl rfl (Yv.extract rfl rfl).yl ?_
      refine SOps.st rfl rfl (Yv.extract rfl rfl).yl ?_
      refine SOps.st rfl rfl (Yv.extract rfl rfl).yl ?_
      refine SOps.st rfl rfl (Yv.assign rfl).yl ?_
      refine SOps.st rfl rfl (Yv.assign rfl).yl ?_
      refine SOps.st rfl rfl (Yv.assign rfl).yl ?_
      refine SOps.nil ?_
      refine Run.seq ?_
      refine Run.seq ?_
      refine Run.ops ?_
      refine SOps.st rfl rfl (Yv.move rfl).yl ?_
      refine SOps.st rfl rfl (Yv.move rfl).yl ?_
      refine SOps.one rfl (One.callRow rfl callable42 (.cons rfl (.cons rfl (.nil))) (fun w' hw' => sBestTugs_spec ((Rd.row (i := 3) rfl) w' hw') ((Rd.row (i := 2) rfl) w' hw')) (fun A32 c32 => ?_))
      refine SOps.st rfl rfl (Yv.move rfl).yl ?_
      refine SOps.st rfl rfl (Yv.extract rfl rfl).yl ?_
      refine SOps.st rfl rfl (Yv.extract rfl rfl).yl ?_
      refine SOps.st rfl rfl (Yv.extract rfl rfl).yl ?_
      refine SOps.st rfl rfl (Yv.assign rfl).yl ?_
      refine SOps.st rfl rfl (Yv.assign rfl).yl ?_
      refine SOps.st rfl rfl (Yv.assign rfl).yl ?_
      refine SOps.nil ?_
      refine Run.seq ?_
      refine Run.quiet (by intro h; cases h) ?_
      refine QOps.st rfl rfl (Yv.move rfl).yl ?_
      refine QOps.st rfl rfl (Yv.move rfl).yl ?_
      refine QOps.st rfl rfl (Yv.neB bool4 rfl rfl).yl ?_
      refine QOps.st rfl rfl (Yv.move rfl).yl ?_
      refine' QOps.or [_, _, _] _ (.tmp 83) rfl rfl rfl rfl rfl rfl (fun hg3 => ?_) ?_
      rotate_left
      · try replace hg3 := of_decide_eq_false hg3
        refine QOps.st rfl rfl (Yv.move rfl).yl ?_
        refine QOps.st rfl rfl (Yv.move rfl).yl ?_
        refine QOps.st rfl rfl (Yv.neI rfl rfl).yl ?_
        exact QOps.nil rfl
      refine QOps.st rfl rfl (Yv.move rfl).yl ?_
      refine' QOps.or [_, _, _, _] _ (.tmp 89) rfl rfl rfl rfl rfl rfl (fun hg4 => ?_) ?_
      rotate_left
      · try replace hg4 := of_decide_eq_false hg4
        refine QOps.st rfl rfl (Yv.move rfl).yl ?_
        refine QOps.st rfl rfl (Yv.move rfl).yl ?_
        refine QOps.st rfl rfl (Yl.call callable31 (.cons rfl (.cons rfl (.nil))) (fun w' hw' => rInts_spec ((Rd.row (i := 1) rfl) w' hw') ((Rd.row (i := 0) rfl) w' hw'))) ?_
        refine QOps.st rfl rfl (Yv.not rfl).yl ?_
        exact QOps.nil rfl
      refine QOps.st rfl rfl (Yv.move rfl).yl ?_
      refine' QOps.or [_, _, _, _, _, _, _, _, _, _] _ (.tmp 101) rfl rfl rfl rfl rfl rfl (fun hg5 => ?_) ?_
      rotate_left
      · try replace hg5 := of_decide_eq_false hg5
        refine QOps.st rfl rfl (Yv.move rfl).yl ?_
        refine QOps.st rfl rfl (Yv.move rfl).yl ?_
        refine' QOps.and [_, _, _, _, _, _, _] _ (.tmp 100) rfl rfl rfl rfl rfl rfl (fun hg6 => ?_) ?_
        rotate_left
        · try replace hg6 := of_decide_eq_true hg6
          refine QOps.st rfl rfl (Yv.move rfl).yl ?_
          refine QOps.st rfl rfl (Yv.not rfl).yl ?_
          refine QOps.st rfl rfl (Yv.move rfl).yl ?_
          refine' QOps.or [_, _, _] _ (.tmp 99) rfl rfl rfl rfl rfl rfl (fun hg7 => ?_) ?_
          rotate_left
          · try replace hg7 := of_decide_eq_false hg7
            refine QOps.st rfl rfl (Yv.move rfl).yl ?_
            refine QOps.st rfl rfl (Yv.move rfl).yl ?_
            refine QOps.st rfl rfl (Yv.lss rfl rfl).yl ?_
            exact QOps.nil rfl
          exact QOps.nil rfl
        exact QOps.nil rfl
      refine QOps.nil ?_
      refine Run.cond rfl (fun hc3 => ?_) (fun hc3 => ?_)
      · exfalso
        cases h8 : (waitsOf ts1 js1 who1).2 with
        | false => rw [h8] at hc3; simp at hc3
        | true =>
          have h9 := best_law h8
          rw [h8, h9.1] at hc3
          simp at hc3
          omega
      · try replace hc3 := of_decide_eq_false hc3
        refine Run.skip ?_
        refine Run.seq ?_
        refine Run.seq ?_
        refine Run.quiet (by intro h; cases h) ?_
        refine QOps.st rfl rfl (Yv.move rfl).yl ?_
        refine QOps.nil ?_
        refine Run.cond rfl (fun hc4 => ?_) (fun hc4 => ?_)
        · try replace hc4 := of_decide_eq_true hc4
          refine Run.seq ?_
          refine Run.quiet (by intro h; cases h) ?_
          refine QOps.st rfl rfl (Yv.move rfl).yl ?_
          refine QOps.st rfl rfl (Yv.move rfl).yl ?_
          refine QOps.st rfl rfl (Yv.move rfl).yl ?_
          refine QOps.st rfl rfl (Yl.call callable39 (.cons rfl (.cons rfl (.cons rfl (.nil)))) (fun w' hw' => WaitingTicks_spec ((Rd.row (i := 4) rfl) w' hw') ((Rd.row (i := 3) rfl) w' hw') ((Rd.row (i := 1) rfl) w' hw'))) ?_
          refine QOps.st rfl rfl (Yv.move rfl).yl ?_
          refine QOps.st rfl rfl (Yv.extract rfl rfl).yl ?_
          refine QOps.st rfl rfl (Yv.extract rfl rfl).yl ?_
          refine QOps.st rfl rfl (Yv.assign rfl).yl ?_
          refine QOps.st rfl rfl (Yv.assign rfl).yl ?_
          refine QOps.nil ?_
          refine Run.seq ?_
          refine Run.quiet (by intro h; cases h) ?_
          refine QOps.st rfl rfl (Yv.move rfl).yl ?_
          refine QOps.st rfl rfl (Yv.not rfl).yl ?_
          refine QOps.st rfl rfl (Yv.move rfl).yl ?_
          refine' QOps.or [_, _, _] _ (.tmp 116) rfl rfl rfl rfl rfl rfl (fun hg8 => ?_) ?_
          rotate_left
          · try replace hg8 := of_decide_eq_false hg8
            refine QOps.st rfl rfl (Yv.move rfl).yl ?_
            refine QOps.st rfl rfl (Yv.move rfl).yl ?_
            refine QOps.st rfl rfl (Yv.neI rfl rfl).yl ?_
            exact QOps.nil rfl
          refine QOps.nil ?_
          refine Run.cond rfl (fun hc5 => ?_) (fun hc5 => ?_)
          · exfalso
            rw [best_waits hc4] at hc5
            simp at hc5
          · try replace hc5 := of_decide_eq_false hc5
            refine Run.skip ?_
            refine Run.seq ?_
            refine Run.ops ?_
            refine SOps.st rfl rfl (Yv.move rfl).yl ?_
            refine SOps.st rfl rfl (Yv.move rfl).yl ?_
            refine SOps.st rfl rfl (Yv.move rfl).yl ?_
            refine SOps.one rfl (One.callRow rfl callable43 (.cons rfl (.cons rfl (.cons rfl (.nil)))) (fun w' hw' => JobEnds_spec ((Rd.row (i := 4) rfl) w' hw') ((Rd.row (i := 3) rfl) w' hw') ((Rd.row (i := 2) rfl) w' hw')) (fun A33 c33 => ?_))
            refine SOps.st rfl rfl (Yv.move rfl).yl ?_
            refine SOps.st rfl rfl (Yv.extract rfl rfl).yl ?_
            refine SOps.st rfl rfl (Yv.extract rfl rfl).yl ?_
            refine SOps.st rfl rfl (Yv.assign rfl).yl ?_
            refine SOps.st rfl rfl (Yv.assign rfl).yl ?_
            refine SOps.nil ?_
            refine Run.seq ?_
            refine Run.quiet (by intro h; cases h) ?_
            refine QOps.st rfl rfl (Yv.move rfl).yl ?_
            refine QOps.st rfl rfl (Yv.move rfl).yl ?_
            refine QOps.st rfl rfl (Yv.move rfl).yl ?_
            refine QOps.st rfl rfl (Yl.call callable44 (.cons rfl (.cons rfl (.cons rfl (.nil)))) (fun w' hw' => LastEnd_spec ((Rd.row (i := 5) rfl) w' hw') ((Rd.row (i := 4) rfl) w' hw') ((Rd.row (i := 3) rfl) w' hw'))) ?_
            refine QOps.st rfl rfl (Yv.move rfl).yl ?_
            refine QOps.st rfl rfl (Yv.extract rfl rfl).yl ?_
            refine QOps.st rfl rfl (Yv.extract rfl rfl).yl ?_
            refine QOps.st rfl rfl (Yv.assign rfl).yl ?_
            refine QOps.st rfl rfl (Yv.assign rfl).yl ?_
            refine QOps.nil ?_
            refine Run.seq ?_
            refine Run.seq ?_
            refine Run.ops ?_
            refine SOps.st rfl rfl (Yv.move rfl).yl ?_
            refine SOps.st rfl rfl (Yv.move rfl).yl ?_
            refine SOps.st rfl rfl (Yv.move rfl).yl ?_
            refine SOps.one rfl (One.callRow rfl callable45 (.cons rfl (.cons rfl (.cons rfl (.nil)))) (fun w' hw' => sJobEnds_spec ((Rd.row (i := 5) rfl) w' hw') ((Rd.row (i := 4) rfl) w' hw') ((Rd.row (i := 3) rfl) w' hw')) (fun A34 c34 => ?_))
            refine SOps.st rfl rfl (Yv.move rfl).yl ?_
            refine SOps.st rfl rfl (Yv.extract rfl rfl).yl ?_
            refine SOps.st rfl rfl (Yv.extract rfl rfl).yl ?_
            refine SOps.st rfl rfl (Yv.assign rfl).yl ?_
            refine SOps.st rfl rfl (Yv.assign rfl).yl ?_
            refine SOps.nil ?_
            refine Run.seq ?_
            refine Run.quiet (by intro h; cases h) ?_
            refine QOps.st rfl rfl (Yv.move rfl).yl ?_
            refine QOps.st rfl rfl (Yv.move rfl).yl ?_
            refine QOps.st rfl rfl (Yv.neB bool4 rfl rfl).yl ?_
            refine QOps.st rfl rfl (Yv.move rfl).yl ?_
            refine' QOps.or [_, _, _] _ (.tmp 145) rfl rfl rfl rfl rfl rfl (fun hg9 => ?_) ?_
            rotate_left
            · try replace hg9 := of_decide_eq_false hg9
              refine QOps.st rfl rfl (Yv.move rfl).yl ?_
              refine QOps.st rfl rfl (Yv.move rfl).yl ?_
              refine QOps.st rfl rfl (Yv.neB bool4 rfl rfl).yl ?_
              exact QOps.nil rfl
            refine QOps.st rfl rfl (Yv.move rfl).yl ?_
            refine' QOps.or [_, _, _, _] _ (.tmp 151) rfl rfl rfl rfl rfl rfl (fun hg10 => ?_) ?_
            rotate_left
            · try replace hg10 := of_decide_eq_false hg10
              refine QOps.st rfl rfl (Yv.move rfl).yl ?_
              refine QOps.st rfl rfl (Yv.move rfl).yl ?_
              refine QOps.st rfl rfl (Yl.call callable31 (.cons rfl (.cons rfl (.nil))) (fun w' hw' => rInts_spec ((Rd.row (i := 1) rfl) w' hw') ((Rd.row (i := 0) rfl) w' hw'))) ?_
              refine QOps.st rfl rfl (Yv.not rfl).yl ?_
              exact QOps.nil rfl
            refine QOps.nil ?_
            refine Run.cond rfl (fun hc6 => ?_) (fun hc6 => ?_)
            · exfalso
              rw [ends_waits] at hc6
              simp at hc6
            · try replace hc6 := of_decide_eq_false hc6
              refine Run.skip ?_
              refine Run.seq ?_
              refine Run.seq ?_
              refine Run.quiet (by intro h; cases h) ?_
              refine QOps.st rfl rfl (Yv.move rfl).yl ?_
              refine QOps.st rfl rfl (Yv.move rfl).yl ?_
              refine QOps.st rfl rfl (Yv.move rfl).yl ?_
              refine QOps.st rfl rfl (Yl.call callable46 (.cons rfl (.cons rfl (.cons rfl (.nil)))) (fun w' hw' => sLastEnd_spec ((Rd.row (i := 6) rfl) w' hw') ((Rd.row (i := 5) rfl) w' hw') ((Rd.row (i := 4) rfl) w' hw'))) ?_
              refine QOps.st rfl rfl (Yv.move rfl).yl ?_
              refine QOps.st rfl rfl (Yv.extract rfl rfl).yl ?_
              refine QOps.st rfl rfl (Yv.extract rfl rfl).yl ?_
              refine QOps.st rfl rfl (Yv.assign rfl).yl ?_
              refine QOps.st rfl rfl (Yv.assign rfl).yl ?_
              refine QOps.nil ?_
              refine Run.seq ?_
              refine Run.quiet (by intro h; cases h) ?_
              refine QOps.st rfl rfl (Yv.move rfl).yl ?_
              refine QOps.st rfl rfl (Yv.move rfl).yl ?_
              refine QOps.st rfl rfl (Yv.neI rfl rfl).yl ?_
              refine QOps.st rfl rfl (Yv.move rfl).yl ?_
              refine' QOps.or [_, _, _] _ (.tmp 166) rfl rfl rfl rfl rfl rfl (fun hg11 => ?_) ?_
              rotate_left
              · try replace hg11 := of_decide_eq_false hg11
                refine QOps.st rfl rfl (Yv.move rfl).yl ?_
                refine QOps.st rfl rfl (Yv.move rfl).yl ?_
                refine QOps.st rfl rfl (Yv.neB bool4 rfl rfl).yl ?_
                exact QOps.nil rfl
              refine QOps.st rfl rfl (Yv.move rfl).yl ?_
              refine' QOps.or [_, _, _] _ (.tmp 171) rfl rfl rfl rfl rfl rfl (fun hg12 => ?_) ?_
              rotate_left
              · try replace hg12 := of_decide_eq_false hg12
                refine QOps.st rfl rfl (Yv.move rfl).yl ?_
                refine QOps.st rfl rfl (Yv.move rfl).yl ?_
                refine QOps.st rfl rfl (Yv.neB bool4 rfl rfl).yl ?_
                exact QOps.nil rfl
              refine QOps.nil ?_
              refine Run.cond rfl (fun hc7 => ?_) (fun hc7 => ?_)
              · exfalso
                rw [last_waits] at hc7
                simp at hc7
              · try replace hc7 := of_decide_eq_false hc7
                refine Run.skip ?_
                refine Run.seq ?_
                refine Run.quiet (by intro h; cases h) ?_
                refine QOps.st rfl rfl (Yv.assign rfl).yl ?_
                refine QOps.nil ?_
                refine Run.seq ?_
                refine Run.seq ?_
                refine Run.quiet (by intro h; cases h) ?_
                refine QOps.st rfl rfl (Yv.assign rfl).yl ?_
                refine QOps.nil ?_
                refine Run.block ?_
                refine Run.loop (S := Nat) (fun s => match s with | k => k ≤ (endsOf ts1 js1 who1).1.length) (fun s => match s with | k => [(4, .slice Aj1 js1.length cj1), (6, .int .i64 (waitsOf ts1 js1 who1).1), (7, .bool (waitsOf ts1 js1 who1).2), (18, .slice A33 ((endsOf ts1 js1 who1).1.length) c33), (20, .int .i64 (lastOf ts1 js1 who1).1), (26, .int .i64 (dayTo ts1 js1 who1 k).waits), (27, .int .i64 (k : Int))]) (fun s => match s with | k => [.row A33 c33 3 1 (endsOf ts1 js1 who1).1.length ((endsOf ts1 js1 who1).1.flatMap intC), .row Aj1 cj1 51 5 js1.length (js1.flatMap Job.enc)]) (fun s => match s with | k => (endsOf ts1 js1 who1).1.length - k) 0 ?_ (SubE.cons rfl (SubE.cons rfl (SubE.cons rfl (SubE.cons rfl (SubE.cons rfl (SubE.cons rfl (SubE.cons rfl (SubE.nil _)))))))) (List.Sublist.cons _ (List.Sublist.cons_cons _ (List.Sublist.cons _ (List.Sublist.cons _ (List.Sublist.cons _ (List.Sublist.cons_cons _ (List.nil_sublist _))))))) ?_
                · exact Nat.zero_le _
                · rintro k hk
                  show Run _ _ _ _ _ [(4, .slice Aj1 js1.length cj1), (6, .int .i64 (waitsOf ts1 js1 who1).1), (7, .bool (waitsOf ts1 js1 who1).2), (18, .slice A33 ((endsOf ts1 js1 who1).1.length) c33), (20, .int .i64 (lastOf ts1 js1 who1).1), (26, .int .i64 (dayTo ts1 js1 who1 k).waits), (27, .int .i64 (k : Int))] [.row A33 c33 3 1 (endsOf ts1 js1 who1).1.length ((endsOf ts1 js1 who1).1.flatMap intC), .row Aj1 cj1 51 5 js1.length (js1.flatMap Job.enc)] _
                  refine Run.seq ?_
                  refine Run.seq ?_
                  refine Run.quiet (by intro h; cases h) ?_
                  refine QOps.st rfl rfl (Yv.move rfl).yl ?_
                  refine QOps.st rfl rfl (Yv.move rfl).yl ?_
                  refine QOps.st rfl rfl (Yv.lenS el43s rfl).yl ?_
                  refine QOps.st rfl rfl (Yv.lss rfl rfl).yl ?_
                  refine QOps.nil ?_
                  refine Run.cond rfl (fun hc8 => ?_) (fun hc8 => ?_)
                  · try replace hc8 := of_decide_eq_true hc8
                    have hDn := done_at (show k < (endsOf ts1 js1 who1).1.length by omega)
                    have hD1 := hDn.len
                    have hD2 := hDn.job
                    have hD3 := hDn.waits
                    have hD4 := hDn.ends
                    have hnx := hDn.next
                    refine Run.skip ?_
                    refine Run.seq ?_
                    refine Run.block ?_
                    refine Run.seq ?_
                    refine Run.quiet (fun _ => ⟨by kernel_rfl, by kernel_rfl⟩) ?_
                    refine QOps.st rfl rfl (Yv.move rfl).yl ?_
                    refine QOps.st rfl rfl (Yv.move rfl).yl ?_
                    refine QOps.st rfl rfl (Yv.indexAddr k el42 rfl rfl rfl (Rd.row (i := 1) rfl) (by omega)).yl ?_
                    refine QOps.st rfl rfl (Yv.fieldAddr fld51_2 rfl).yl ?_
                    refine QOps.st rfl rfl (Yv.loadF lay3 rfl Job.len (Rd.row (i := 1) rfl) (by first | omega | (simp; omega)) (by decide) rfl).yl ?_
                    refine QOps.st rfl rfl (Yv.move rfl).yl ?_
                    refine QOps.st rfl rfl (Yv.move rfl).yl ?_
                    refine QOps.st rfl rfl (Yv.indexAddr k el42 rfl rfl rfl (Rd.row (i := 1) rfl) (by omega)).yl ?_
                    refine QOps.st rfl rfl (Yv.fieldAddr fld51_1 rfl).yl ?_
                    refine QOps.st rfl rfl (Yv.loadF lay3 rfl Job.len (Rd.row (i := 1) rfl) (by first | omega | (simp; omega)) (by decide) rfl).yl ?_
                    refine QOps.st rfl rfl (Yv.sub rfl rfl (by omega)).yl ?_
                    refine QOps.st rfl rfl (Yv.assign rfl).yl ?_
                    refine QOps.nil ?_
                    refine Run.seq ?_
                    refine Run.seq ?_
                    refine Run.quiet (by intro h; cases h) ?_
                    refine QOps.st rfl rfl (Yv.move rfl).yl ?_
                    refine QOps.st rfl rfl (Yv.lss rfl rfl).yl ?_
                    refine QOps.nil ?_
                    refine Run.cond rfl (fun hc9 => ?_) (fun hc9 => ?_)
                    · try replace hc9 := of_decide_eq_true hc9
                      have hbw := hDn.bwd hc9
                      rw [hbw] at hnx hD4
                      refine Run.quiet (by intro h; cases h) ?_
                      refine QOps.st rfl rfl (Yv.move rfl).yl ?_
                      refine QOps.st rfl rfl (Yv.neg rfl (by omega)).yl ?_
                      refine QOps.st rfl rfl (Yv.assign rfl).yl ?_
                      refine QOps.nil ?_
                      refine Run.seq ?_
                      refine Run.quiet (fun _ => ⟨by kernel_rfl, by kernel_rfl⟩) ?_
                      refine QOps.st rfl rfl (Yv.move rfl).yl ?_
                      refine QOps.st rfl rfl (Yv.move rfl).yl ?_
                      refine QOps.st rfl rfl (Yv.move rfl).yl ?_
                      refine QOps.st rfl rfl (Yv.indexAddr k el43 rfl rfl rfl (Rd.row (i := 0) rfl) (by omega)).yl ?_
                      refine QOps.st rfl rfl (Yv.loadE lay3 rfl intC_len (Rd.row (i := 0) rfl) (by first | omega | (simp; omega)) rfl).yl ?_
                      refine QOps.st rfl rfl (Yv.add rfl rfl (by omega)).yl ?_
                      refine QOps.st rfl rfl (Yv.move rfl).yl ?_
                      refine QOps.st rfl rfl (Yv.sub rfl rfl (by omega)).yl ?_
                      refine QOps.st rfl rfl (Yv.move rfl).yl ?_
                      refine QOps.st rfl rfl (Yv.move rfl).yl ?_
                      refine QOps.st rfl rfl (Yv.indexAddr k el42 rfl rfl rfl (Rd.row (i := 1) rfl) (by omega)).yl ?_
                      refine QOps.st rfl rfl (Yv.fieldAddr fld51_4 rfl).yl ?_
                      refine QOps.st rfl rfl (Yv.loadF lay3 rfl Job.len (Rd.row (i := 1) rfl) (by first | omega | (simp; omega)) (by decide) rfl).yl ?_
                      refine QOps.st rfl rfl (Yv.sub rfl rfl (by omega)).yl ?_
                      refine QOps.st rfl rfl (Yv.assign rfl).yl ?_
                      refine QOps.nil ?_
                      refine Run.seq ?_
                      refine Run.quiet (fun _ => ⟨by kernel_rfl, by kernel_rfl⟩) ?_
                      refine QOps.st rfl rfl (Yv.move rfl).yl ?_
                      refine QOps.st rfl rfl (Yv.move rfl).yl ?_
                      refine QOps.st rfl rfl (Yv.indexAddr k el43 rfl rfl rfl (Rd.row (i := 0) rfl) (by omega)).yl ?_
                      refine QOps.st rfl rfl (Yv.loadE lay3 rfl intC_len (Rd.row (i := 0) rfl) (by first | omega | (simp; omega)) rfl).yl ?_
                      refine QOps.st rfl rfl (Yv.move rfl).yl ?_
                      refine QOps.st rfl rfl (Yv.move rfl).yl ?_
                      refine QOps.st rfl rfl (Yv.indexAddr k el42 rfl rfl rfl (Rd.row (i := 1) rfl) (by omega)).yl ?_
                      refine QOps.st rfl rfl (Yv.fieldAddr fld51_4 rfl).yl ?_
                      refine QOps.st rfl rfl (Yv.loadF lay3 rfl Job.len (Rd.row (i := 1) rfl) (by first | omega | (simp; omega)) (by decide) rfl).yl ?_
                      refine QOps.st rfl rfl (Yv.move rfl).yl ?_
                      refine QOps.st rfl rfl (Yv.add rfl rfl (by omega)).yl ?_
                      refine QOps.st rfl rfl (Yv.lss rfl rfl).yl ?_
                      refine QOps.st rfl rfl (Yv.move rfl).yl ?_
                      refine' QOps.or [_, _, _, _, _, _] _ (.tmp 226) rfl rfl rfl rfl rfl rfl (fun hg13 => ?_) ?_
                      rotate_left
                      · try replace hg13 := of_decide_eq_false hg13
                        refine QOps.st rfl rfl (Yv.move rfl).yl ?_
                        refine QOps.st rfl rfl (Yv.move rfl).yl ?_
                        refine QOps.st rfl rfl (Yv.indexAddr k el43 rfl rfl rfl (Rd.row (i := 0) rfl) (by omega)).yl ?_
                        refine QOps.st rfl rfl (Yv.loadE lay3 rfl intC_len (Rd.row (i := 0) rfl) (by first | omega | (simp; omega)) rfl).yl ?_
                        refine QOps.st rfl rfl (Yv.move rfl).yl ?_
                        refine QOps.st rfl rfl (Yv.gtr rfl rfl).yl ?_
                        exact QOps.nil rfl
                      refine QOps.nil ?_
                      refine Run.cond rfl (fun hc10 => ?_) (fun hc10 => ?_)
                      · exfalso
                        simp at hc10
                        omega
                      · try replace hc10 := of_decide_eq_false hc10
                        refine Run.skip ?_
                        refine Run.quiet (by intro h; cases h) ?_
                        refine QOps.st rfl rfl (Yv.move rfl).yl ?_
                        refine QOps.st rfl rfl (Yv.succN rfl rfl (by omega)).yl ?_
                        refine QOps.st rfl rfl (Yv.assign rfl).yl ?_
                        refine QOps.nil ?_
                        refine ⟨k + 1, ?_, ?_, (SubE.cons rfl (SubE.cons rfl (SubE.cons rfl (SubE.cons rfl (SubE.cons rfl (SubE.cons (congrArg (fun z => some (Value.int .i64 z)) hnx) (SubE.cons rfl (SubE.nil _)))))))), (List.Sublist.refl _)⟩
                        · show k + 1 ≤ _; omega
                        · first | omega | (dsimp only; omega)
                    · try replace hc9 := of_decide_eq_false hc9
                      have hfw := hDn.fwd hc9
                      rw [hfw] at hnx hD4
                      refine Run.skip ?_
                      refine Run.seq ?_
                      refine Run.quiet (fun _ => ⟨by kernel_rfl, by kernel_rfl⟩) ?_
                      refine QOps.st rfl rfl (Yv.move rfl).yl ?_
                      refine QOps.st rfl rfl (Yv.move rfl).yl ?_
                      refine QOps.st rfl rfl (Yv.move rfl).yl ?_
                      refine QOps.st rfl rfl (Yv.indexAddr k el43 rfl rfl rfl (Rd.row (i := 0) rfl) (by omega)).yl ?_
                      refine QOps.st rfl rfl (Yv.loadE lay3 rfl intC_len (Rd.row (i := 0) rfl) (by first | omega | (simp; omega)) rfl).yl ?_
                      refine QOps.st rfl rfl (Yv.add rfl rfl (by omega)).yl ?_
                      refine QOps.st rfl rfl (Yv.move rfl).yl ?_
                      refine QOps.st rfl rfl (Yv.sub rfl rfl (by omega)).yl ?_
                      refine QOps.st rfl rfl (Yv.move rfl).yl ?_
                      refine QOps.st rfl rfl (Yv.move rfl).yl ?_
                      refine QOps.st rfl rfl (Yv.indexAddr k el42 rfl rfl rfl (Rd.row (i := 1) rfl) (by omega)).yl ?_
                      refine QOps.st rfl rfl (Yv.fieldAddr fld51_4 rfl).yl ?_
                      refine QOps.st rfl rfl (Yv.loadF lay3 rfl Job.len (Rd.row (i := 1) rfl) (by first | omega | (simp; omega)) (by decide) rfl).yl ?_
                      refine QOps.st rfl rfl (Yv.sub rfl rfl (by omega)).yl ?_
                      refine QOps.st rfl rfl (Yv.assign rfl).yl ?_
                      refine QOps.nil ?_
                      refine Run.seq ?_
                      refine Run.quiet (fun _ => ⟨by kernel_rfl, by kernel_rfl⟩) ?_
                      refine QOps.st rfl rfl (Yv.move rfl).yl ?_
                      refine QOps.st rfl rfl (Yv.move rfl).yl ?_
                      refine QOps.st rfl rfl (Yv.indexAddr k el43 rfl rfl rfl (Rd.row (i := 0) rfl) (by omega)).yl ?_
                      refine QOps.st rfl rfl (Yv.loadE lay3 rfl intC_len (Rd.row (i := 0) rfl) (by first | omega | (simp; omega)) rfl).yl ?_
                      refine QOps.st rfl rfl (Yv.move rfl).yl ?_
                      refine QOps.st rfl rfl (Yv.move rfl).yl ?_
                      refine QOps.st rfl rfl (Yv.indexAddr k el42 rfl rfl rfl (Rd.row (i := 1) rfl) (by omega)).yl ?_
                      refine QOps.st rfl rfl (Yv.fieldAddr fld51_4 rfl).yl ?_
                      refine QOps.st rfl rfl (Yv.loadF lay3 rfl Job.len (Rd.row (i := 1) rfl) (by first | omega | (simp; omega)) (by decide) rfl).yl ?_
                      refine QOps.st rfl rfl (Yv.move rfl).yl ?_
                      refine QOps.st rfl rfl (Yv.add rfl rfl (by omega)).yl ?_
                      refine QOps.st rfl rfl (Yv.lss rfl rfl).yl ?_
                      refine QOps.st rfl rfl (Yv.move rfl).yl ?_
                      refine' QOps.or [_, _, _, _, _, _] _ (.tmp 226) rfl rfl rfl rfl rfl rfl (fun hg14 => ?_) ?_
                      rotate_left
                      · try replace hg14 := of_decide_eq_false hg14
                        refine QOps.st rfl rfl (Yv.move rfl).yl ?_
                        refine QOps.st rfl rfl (Yv.move rfl).yl ?_
                        refine QOps.st rfl rfl (Yv.indexAddr k el43 rfl rfl rfl (Rd.row (i := 0) rfl) (by omega)).yl ?_
                        refine QOps.st rfl rfl (Yv.loadE lay3 rfl intC_len (Rd.row (i := 0) rfl) (by first | omega | (simp; omega)) rfl).yl ?_
                        refine QOps.st rfl rfl (Yv.move rfl).yl ?_
                        refine QOps.st rfl rfl (Yv.gtr rfl rfl).yl ?_
                        exact QOps.nil rfl
                      refine QOps.nil ?_
                      refine Run.cond rfl (fun hc11 => ?_) (fun hc11 => ?_)
                      · exfalso
                        simp at hc11
                        omega
                      · try replace hc11 := of_decide_eq_false hc11
                        refine Run.skip ?_
                        refine Run.quiet (by intro h; cases h) ?_
                        refine QOps.st rfl rfl (Yv.move rfl).yl ?_
                        refine QOps.st rfl rfl (Yv.succN rfl rfl (by omega)).yl ?_
                        refine QOps.st rfl rfl (Yv.assign rfl).yl ?_
                        refine QOps.nil ?_
                        refine ⟨k + 1, ?_, ?_, (SubE.cons rfl (SubE.cons rfl (SubE.cons rfl (SubE.cons rfl (SubE.cons rfl (SubE.cons (congrArg (fun z => some (Value.int .i64 z)) hnx) (SubE.cons rfl (SubE.nil _)))))))), (List.Sublist.refl _)⟩
                        · show k + 1 ≤ _; omega
                        · first | omega | (dsimp only; omega)
                  · try replace hc8 := of_decide_eq_false hc8
                    refine Run.exit ?_
                    refine Run.seq ?_
                    refine Run.quiet (by intro h; cases h) ?_
                    refine QOps.st rfl rfl (Yv.move rfl).yl ?_
                    refine QOps.st rfl rfl (Yv.not rfl).yl ?_
                    refine QOps.st rfl rfl (Yv.move rfl).yl ?_
                    refine' QOps.or [_, _, _] _ (.tmp 233) rfl rfl rfl rfl rfl rfl (fun hg15 => ?_) ?_
                    rotate_left
                    · try replace hg15 := of_decide_eq_false hg15
                      refine QOps.st rfl rfl (Yv.move rfl).yl ?_
                      refine QOps.st rfl rfl (Yv.move rfl).yl ?_
                      refine QOps.st rfl rfl (Yv.eqI rfl rfl).yl ?_
                      exact QOps.nil rfl
                    refine QOps.st rfl rfl (Yv.assign rfl).yl ?_
                    refine QOps.nil ?_
                    refine Run.ret ?_
                    refine retQ.of (.inr rfl) rfl (.tmp rfl .nil) (fun w' hw' => ?_)
                    refine ⟨?_, hw'.bel.below⟩
                    refine retB_eq ?_
                    have h9 := waits_end (ts := ts1) (js := js1) (who := who1) (k := k) (by omega)
                    exact h9
        · try replace hc4 := of_decide_eq_false hc4
          refine Run.skip ?_
          refine Run.seq ?_
          refine Run.ops ?_
          refine SOps.st rfl rfl (Yv.move rfl).yl ?_
          refine SOps.st rfl rfl (Yv.move rfl).yl ?_
          refine SOps.st rfl rfl (Yv.move rfl).yl ?_
          refine SOps.one rfl (One.callRow rfl callable43 (.cons rfl (.cons rfl (.cons rfl (.nil)))) (fun w' hw' => JobEnds_spec ((Rd.row (i := 4) rfl) w' hw') ((Rd.row (i := 3) rfl) w' hw') ((Rd.row (i := 2) rfl) w' hw')) (fun A35 c35 => ?_))
          refine SOps.st rfl rfl (Yv.move rfl).yl ?_
          refine SOps.st rfl rfl (Yv.extract rfl rfl).yl ?_
          refine SOps.st rfl rfl (Yv.extract rfl rfl).yl ?_
          refine SOps.st rfl rfl (Yv.assign rfl).yl ?_
          refine SOps.st rfl rfl (Yv.assign rfl).yl ?_
          refine SOps.nil ?_
          refine Run.seq ?_
          refine Run.quiet (by intro h; cases h) ?_
          refine QOps.st rfl rfl (Yv.move rfl).yl ?_
          refine QOps.st rfl rfl (Yv.move rfl).yl ?_
          refine QOps.st rfl rfl (Yv.move rfl).yl ?_
          refine QOps.st rfl rfl (Yl.call callable44 (.cons rfl (.cons rfl (.cons rfl (.nil)))) (fun w' hw' => LastEnd_spec ((Rd.row (i := 5) rfl) w' hw') ((Rd.row (i := 4) rfl) w' hw') ((Rd.row (i := 3) rfl) w' hw'))) ?_
          refine QOps.st rfl rfl (Yv.move rfl).yl ?_
          refine QOps.st rfl rfl (Yv.extract rfl rfl).yl ?_
          refine QOps.st rfl rfl (Yv.extract rfl rfl).yl ?_
          refine QOps.st rfl rfl (Yv.assign rfl).yl ?_
          refine QOps.st rfl rfl (Yv.assign rfl).yl ?_
          refine QOps.nil ?_
          refine Run.seq ?_
          refine Run.seq ?_
          refine Run.ops ?_
          refine SOps.st rfl rfl (Yv.move rfl).yl ?_
          refine SOps.st rfl rfl (Yv.move rfl).yl ?_
          refine SOps.st rfl rfl (Yv.move rfl).yl ?_
          refine SOps.one rfl (One.callRow rfl callable45 (.cons rfl (.cons rfl (.cons rfl (.nil)))) (fun w' hw' => sJobEnds_spec ((Rd.row (i := 5) rfl) w' hw') ((Rd.row (i := 4) rfl) w' hw') ((Rd.row (i := 3) rfl) w' hw')) (fun A36 c36 => ?_))
          refine SOps.st rfl rfl (Yv.move rfl).yl ?_
          refine SOps.st rfl rfl (Yv.extract rfl rfl).yl ?_
          refine SOps.st rfl rfl (Yv.extract rfl rfl).yl ?_
          refine SOps.st rfl rfl (Yv.assign rfl).yl ?_
          refine SOps.st rfl rfl (Yv.assign rfl).yl ?_
          refine SOps.nil ?_
          refine Run.seq ?_
          refine Run.quiet (by intro h; cases h) ?_
          refine QOps.st rfl rfl (Yv.move rfl).yl ?_
          refine QOps.st rfl rfl (Yv.move rfl).yl ?_
          refine QOps.st rfl rfl (Yv.neB bool4 rfl rfl).yl ?_
          refine QOps.st rfl rfl (Yv.move rfl).yl ?_
          refine' QOps.or [_, _, _] _ (.tmp 145) rfl rfl rfl rfl rfl rfl (fun hg16 => ?_) ?_
          rotate_left
          · try replace hg16 := of_decide_eq_false hg16
            refine QOps.st rfl rfl (Yv.move rfl).yl ?_
            refine QOps.st rfl rfl (Yv.move rfl).yl ?_
            refine QOps.st rfl rfl (Yv.neB bool4 rfl rfl).yl ?_
            exact QOps.nil rfl
          refine QOps.st rfl rfl (Yv.move rfl).yl ?_
          refine' QOps.or [_, _, _, _] _ (.tmp 151) rfl rfl rfl rfl rfl rfl (fun hg17 => ?_) ?_
          rotate_left
          · try replace hg17 := of_decide_eq_false hg17
            refine QOps.st rfl rfl (Yv.move rfl).yl ?_
            refine QOps.st rfl rfl (Yv.move rfl).yl ?_
            refine QOps.st rfl rfl (Yl.call callable31 (.cons rfl (.cons rfl (.nil))) (fun w' hw' => rInts_spec ((Rd.row (i := 1) rfl) w' hw') ((Rd.row (i := 0) rfl) w' hw'))) ?_
            refine QOps.st rfl rfl (Yv.not rfl).yl ?_
            exact QOps.nil rfl
          refine QOps.nil ?_
          refine Run.cond rfl (fun hc12 => ?_) (fun hc12 => ?_)
          · exfalso
            rw [ends_waits] at hc12
            simp at hc12
          · try replace hc12 := of_decide_eq_false hc12
            refine Run.skip ?_
            refine Run.seq ?_
            refine Run.seq ?_
            refine Run.quiet (by intro h; cases h) ?_
            refine QOps.st rfl rfl (Yv.move rfl).yl ?_
            refine QOps.st rfl rfl (Yv.move rfl).yl ?_
            refine QOps.st rfl rfl (Yv.move rfl).yl ?_
            refine QOps.st rfl rfl (Yl.call callable46 (.cons rfl (.cons rfl (.cons rfl (.nil)))) (fun w' hw' => sLastEnd_spec ((Rd.row (i := 6) rfl) w' hw') ((Rd.row (i := 5) rfl) w' hw') ((Rd.row (i := 4) rfl) w' hw'))) ?_
            refine QOps.st rfl rfl (Yv.move rfl).yl ?_
            refine QOps.st rfl rfl (Yv.extract rfl rfl).yl ?_
            refine QOps.st rfl rfl (Yv.extract rfl rfl).yl ?_
            refine QOps.st rfl rfl (Yv.assign rfl).yl ?_
            refine QOps.st rfl rfl (Yv.assign rfl).yl ?_
            refine QOps.nil ?_
            refine Run.seq ?_
            refine Run.quiet (by intro h; cases h) ?_
            refine QOps.st rfl rfl (Yv.move rfl).yl ?_
            refine QOps.st rfl rfl (Yv.move rfl).yl ?_
            refine QOps.st rfl rfl (Yv.neI rfl rfl).yl ?_
            refine QOps.st rfl rfl (Yv.move rfl).yl ?_
            refine' QOps.or [_, _, _] _ (.tmp 166) rfl rfl rfl rfl rfl rfl (fun hg18 => ?_) ?_
            rotate_left
            · try replace hg18 := of_decide_eq_false hg18
              refine QOps.st rfl rfl (Yv.move rfl).yl ?_
              refine QOps.st rfl rfl (Yv.move rfl).yl ?_
              refine QOps.st rfl rfl (Yv.neB bool4 rfl rfl).yl ?_
              exact QOps.nil rfl
            refine QOps.st rfl rfl (Yv.move rfl).yl ?_
            refine' QOps.or [_, _, _] _ (.tmp 171) rfl rfl rfl rfl rfl rfl (fun hg19 => ?_) ?_
            rotate_left
            · try replace hg19 := of_decide_eq_false hg19
              refine QOps.st rfl rfl (Yv.move rfl).yl ?_
              refine QOps.st rfl rfl (Yv.move rfl).yl ?_
              refine QOps.st rfl rfl (Yv.neB bool4 rfl rfl).yl ?_
              exact QOps.nil rfl
            refine QOps.nil ?_
            refine Run.cond rfl (fun hc13 => ?_) (fun hc13 => ?_)
            · exfalso
              rw [last_waits] at hc13
              simp at hc13
            · try replace hc13 := of_decide_eq_false hc13
              refine Run.skip ?_
              refine Run.seq ?_
              refine Run.quiet (by intro h; cases h) ?_
              refine QOps.st rfl rfl (Yv.assign rfl).yl ?_
              refine QOps.nil ?_
              refine Run.seq ?_
              refine Run.seq ?_
              refine Run.quiet (by intro h; cases h) ?_
              refine QOps.st rfl rfl (Yv.assign rfl).yl ?_
              refine QOps.nil ?_
              refine Run.block ?_
              refine Run.loop (S := Nat) (fun s => match s with | k => k ≤ (endsOf ts1 js1 who1).1.length) (fun s => match s with | k => [(4, .slice Aj1 js1.length cj1), (6, .int .i64 (waitsOf ts1 js1 who1).1), (7, .bool (waitsOf ts1 js1 who1).2), (18, .slice A35 ((endsOf ts1 js1 who1).1.length) c35), (20, .int .i64 (lastOf ts1 js1 who1).1), (26, .int .i64 (dayTo ts1 js1 who1 k).waits), (27, .int .i64 (k : Int))]) (fun s => match s with | k => [.row A35 c35 3 1 (endsOf ts1 js1 who1).1.length ((endsOf ts1 js1 who1).1.flatMap intC), .row Aj1 cj1 51 5 js1.length (js1.flatMap Job.enc)]) (fun s => match s with | k => (endsOf ts1 js1 who1).1.length - k) 0 ?_ (SubE.cons rfl (SubE.cons rfl (SubE.cons rfl (SubE.cons rfl (SubE.cons rfl (SubE.cons rfl (SubE.cons rfl (SubE.nil _)))))))) (List.Sublist.cons _ (List.Sublist.cons_cons _ (List.Sublist.cons _ (List.Sublist.cons _ (List.Sublist.cons _ (List.Sublist.cons_cons _ (List.nil_sublist _))))))) ?_
              · exact Nat.zero_le _
              · rintro k hk
                show Run _ _ _ _ _ [(4, .slice Aj1 js1.length cj1), (6, .int .i64 (waitsOf ts1 js1 who1).1), (7, .bool (waitsOf ts1 js1 who1).2), (18, .slice A35 ((endsOf ts1 js1 who1).1.length) c35), (20, .int .i64 (lastOf ts1 js1 who1).1), (26, .int .i64 (dayTo ts1 js1 who1 k).waits), (27, .int .i64 (k : Int))] [.row A35 c35 3 1 (endsOf ts1 js1 who1).1.length ((endsOf ts1 js1 who1).1.flatMap intC), .row Aj1 cj1 51 5 js1.length (js1.flatMap Job.enc)] _
                refine Run.seq ?_
                refine Run.seq ?_
                refine Run.quiet (by intro h; cases h) ?_
                refine QOps.st rfl rfl (Yv.move rfl).yl ?_
                refine QOps.st rfl rfl (Yv.move rfl).yl ?_
                refine QOps.st rfl rfl (Yv.lenS el43s rfl).yl ?_
                refine QOps.st rfl rfl (Yv.lss rfl rfl).yl ?_
                refine QOps.nil ?_
                refine Run.cond rfl (fun hc14 => ?_) (fun hc14 => ?_)
                · try replace hc14 := of_decide_eq_true hc14
                  have hDn := done_at (show k < (endsOf ts1 js1 who1).1.length by omega)
                  have hD1 := hDn.len
                  have hD2 := hDn.job
                  have hD3 := hDn.waits
                  have hD4 := hDn.ends
                  have hnx := hDn.next
                  refine Run.skip ?_
                  refine Run.seq ?_
                  refine Run.block ?_
                  refine Run.seq ?_
                  refine Run.quiet (fun _ => ⟨by kernel_rfl, by kernel_rfl⟩) ?_
                  refine QOps.st rfl rfl (Yv.move rfl).yl ?_
                  refine QOps.st rfl rfl (Yv.move rfl).yl ?_
                  refine QOps.st rfl rfl (Yv.indexAddr k el42 rfl rfl rfl (Rd.row (i := 1) rfl) (by omega)).yl ?_
                  refine QOps.st rfl rfl (Yv.fieldAddr fld51_2 rfl).yl ?_
                  refine QOps.st rfl rfl (Yv.loadF lay3 rfl Job.len (Rd.row (i := 1) rfl) (by first | omega | (simp; omega)) (by decide) rfl).yl ?_
                  refine QOps.st rfl rfl (Yv.move rfl).yl ?_
                  refine QOps.st rfl rfl (Yv.move rfl).yl ?_
                  refine QOps.st rfl rfl (Yv.indexAddr k el42 rfl rfl rfl (Rd.row (i := 1) rfl) (by omega)).yl ?_
                  refine QOps.st rfl rfl (Yv.fieldAddr fld51_1 rfl).yl ?_
                  refine QOps.st rfl rfl (Yv.loadF lay3 rfl Job.len (Rd.row (i := 1) rfl) (by first | omega | (simp; omega)) (by decide) rfl).yl ?_
                  refine QOps.st rfl rfl (Yv.sub rfl rfl (by omega)).yl ?_
                  refine QOps.st rfl rfl (Yv.assign rfl).yl ?_
                  refine QOps.nil ?_
                  refine Run.seq ?_
                  refine Run.seq ?_
                  refine Run.quiet (by intro h; cases h) ?_
                  refine QOps.st rfl rfl (Yv.move rfl).yl ?_
                  refine QOps.st rfl rfl (Yv.lss rfl rfl).yl ?_
                  refine QOps.nil ?_
                  refine Run.cond rfl (fun hc15 => ?_) (fun hc15 => ?_)
                  · try replace hc15 := of_decide_eq_true hc15
                    have hbw := hDn.bwd hc15
                    rw [hbw] at hnx hD4
                    refine Run.quiet (by intro h; cases h) ?_
                    refine QOps.st rfl rfl (Yv.move rfl).yl ?_
                    refine QOps.st rfl rfl (Yv.neg rfl (by omega)).yl ?_
                    refine QOps.st rfl rfl (Yv.assign rfl).yl ?_
                    refine QOps.nil ?_
                    refine Run.seq ?_
                    refine Run.quiet (fun _ => ⟨by kernel_rfl, by kernel_rfl⟩) ?_
                    refine QOps.st rfl rfl (Yv.move rfl).yl ?_
                    refine QOps.st rfl rfl (Yv.move rfl).yl ?_
                    refine QOps.st rfl rfl (Yv.move rfl).yl ?_
                    refine QOps.st rfl rfl (Yv.indexAddr k el43 rfl rfl rfl (Rd.row (i := 0) rfl) (by omega)).yl ?_
                    refine QOps.st rfl rfl (Yv.loadE lay3 rfl intC_len (Rd.row (i := 0) rfl) (by first | omega | (simp; omega)) rfl).yl ?_
                    refine QOps.st rfl rfl (Yv.add rfl rfl (by omega)).yl ?_
                    refine QOps.st rfl rfl (Yv.move rfl).yl ?_
                    refine QOps.st rfl rfl (Yv.sub rfl rfl (by omega)).yl ?_
                    refine QOps.st rfl rfl (Yv.move rfl).yl ?_
                    refine QOps.st rfl rfl (Yv.move rfl).yl ?_
                    refine QOps.st rfl rfl (Yv.indexAddr k el42 rfl rfl rfl (Rd.row (i := 1) rfl) (by omega)).yl ?_
                    refine QOps.st rfl rfl (Yv.fieldAddr fld51_4 rfl).yl ?_
                    refine QOps.st rfl rfl (Yv.loadF lay3 rfl Job.len (Rd.row (i := 1) rfl) (by first | omega | (simp; omega)) (by decide) rfl).yl ?_
                    refine QOps.st rfl rfl (Yv.sub rfl rfl (by omega)).yl ?_
                    refine QOps.st rfl rfl (Yv.assign rfl).yl ?_
                    refine QOps.nil ?_
                    refine Run.seq ?_
                    refine Run.quiet (fun _ => ⟨by kernel_rfl, by kernel_rfl⟩) ?_
                    refine QOps.st rfl rfl (Yv.move rfl).yl ?_
                    refine QOps.st rfl rfl (Yv.move rfl).yl ?_
                    refine QOps.st rfl rfl (Yv.indexAddr k el43 rfl rfl rfl (Rd.row (i := 0) rfl) (by omega)).yl ?_
                    refine QOps.st rfl rfl (Yv.loadE lay3 rfl intC_len (Rd.row (i := 0) rfl) (by first | omega | (simp; omega)) rfl).yl ?_
                    refine QOps.st rfl rfl (Yv.move rfl).yl ?_
                    refine QOps.st rfl rfl (Yv.move rfl).yl ?_
                    refine QOps.st rfl rfl (Yv.indexAddr k el42 rfl rfl rfl (Rd.row (i := 1) rfl) (by omega)).yl ?_
                    refine QOps.st rfl rfl (Yv.fieldAddr fld51_4 rfl).yl ?_
                    refine QOps.st rfl rfl (Yv.loadF lay3 rfl Job.len (Rd.row (i := 1) rfl) (by first | omega | (simp; omega)) (by decide) rfl).yl ?_
                    refine QOps.st rfl rfl (Yv.move rfl).yl ?_
                    refine QOps.st rfl rfl (Yv.add rfl rfl (by omega)).yl ?_
                    refine QOps.st rfl rfl (Yv.lss rfl rfl).yl ?_
                    refine QOps.st rfl rfl (Yv.move rfl).yl ?_
                    refine' QOps.or [_, _, _, _, _, _] _ (.tmp 226) rfl rfl rfl rfl rfl rfl (fun hg20 => ?_) ?_
                    rotate_left
                    · try replace hg20 := of_decide_eq_false hg20
                      refine QOps.st rfl rfl (Yv.move rfl).yl ?_
                      refine QOps.st rfl rfl (Yv.move rfl).yl ?_
                      refine QOps.st rfl rfl (Yv.indexAddr k el43 rfl rfl rfl (Rd.row (i := 0) rfl) (by omega)).yl ?_
                      refine QOps.st rfl rfl (Yv.loadE lay3 rfl intC_len (Rd.row (i := 0) rfl) (by first | omega | (simp; omega)) rfl).yl ?_
                      refine QOps.st rfl rfl (Yv.move rfl).yl ?_
                      refine QOps.st rfl rfl (Yv.gtr rfl rfl).yl ?_
                      exact QOps.nil rfl
                    refine QOps.nil ?_
                    refine Run.cond rfl (fun hc16 => ?_) (fun hc16 => ?_)
                    · exfalso
                      simp at hc16
                      omega
                    · try replace hc16 := of_decide_eq_false hc16
                      refine Run.skip ?_
                      refine Run.quiet (by intro h; cases h) ?_
                      refine QOps.st rfl rfl (Yv.move rfl).yl ?_
                      refine QOps.st rfl rfl (Yv.succN rfl rfl (by omega)).yl ?_
                      refine QOps.st rfl rfl (Yv.assign rfl).yl ?_
                      refine QOps.nil ?_
                      refine ⟨k + 1, ?_, ?_, (SubE.cons rfl (SubE.cons rfl (SubE.cons rfl (SubE.cons rfl (SubE.cons rfl (SubE.cons (congrArg (fun z => some (Value.int .i64 z)) hnx) (SubE.cons rfl (SubE.nil _)))))))), (List.Sublist.refl _)⟩
                      · show k + 1 ≤ _; omega
                      · first | omega | (dsimp only; omega)
                  · try replace hc15 := of_decide_eq_false hc15
                    have hfw := hDn.fwd hc15
                    rw [hfw] at hnx hD4
                    refine Run.skip ?_
                    refine Run.seq ?_
                    refine Run.quiet (fun _ => ⟨by kernel_rfl, by kernel_rfl⟩) ?_
                    refine QOps.st rfl rfl (Yv.move rfl).yl ?_
                    refine QOps.st rfl rfl (Yv.move rfl).yl ?_
                    refine QOps.st rfl rfl (Yv.move rfl).yl ?_
                    refine QOps.st rfl rfl (Yv.indexAddr k el43 rfl rfl rfl (Rd.row (i := 0) rfl) (by omega)).yl ?_
                    refine QOps.st rfl rfl (Yv.loadE lay3 rfl intC_len (Rd.row (i := 0) rfl) (by first | omega | (simp; omega)) rfl).yl ?_
                    refine QOps.st rfl rfl (Yv.add rfl rfl (by omega)).yl ?_
                    refine QOps.st rfl rfl (Yv.move rfl).yl ?_
                    refine QOps.st rfl rfl (Yv.sub rfl rfl (by omega)).yl ?_
                    refine QOps.st rfl rfl (Yv.move rfl).yl ?_
                    refine QOps.st rfl rfl (Yv.move rfl).yl ?_
                    refine QOps.st rfl rfl (Yv.indexAddr k el42 rfl rfl rfl (Rd.row (i := 1) rfl) (by omega)).yl ?_
                    refine QOps.st rfl rfl (Yv.fieldAddr fld51_4 rfl).yl ?_
                    refine QOps.st rfl rfl (Yv.loadF lay3 rfl Job.len (Rd.row (i := 1) rfl) (by first | omega | (simp; omega)) (by decide) rfl).yl ?_
                    refine QOps.st rfl rfl (Yv.sub rfl rfl (by omega)).yl ?_
                    refine QOps.st rfl rfl (Yv.assign rfl).yl ?_
                    refine QOps.nil ?_
                    refine Run.seq ?_
                    refine Run.quiet (fun _ => ⟨by kernel_rfl, by kernel_rfl⟩) ?_
                    refine QOps.st rfl rfl (Yv.move rfl).yl ?_
                    refine QOps.st rfl rfl (Yv.move rfl).yl ?_
                    refine QOps.st rfl rfl (Yv.indexAddr k el43 rfl rfl rfl (Rd.row (i := 0) rfl) (by omega)).yl ?_
                    refine QOps.st rfl rfl (Yv.loadE lay3 rfl intC_len (Rd.row (i := 0) rfl) (by first | omega | (simp; omega)) rfl).yl ?_
                    refine QOps.st rfl rfl (Yv.move rfl).yl ?_
                    refine QOps.st rfl rfl (Yv.move rfl).yl ?_
                    refine QOps.st rfl rfl (Yv.indexAddr k el42 rfl rfl rfl (Rd.row (i := 1) rfl) (by omega)).yl ?_
                    refine QOps.st rfl rfl (Yv.fieldAddr fld51_4 rfl).yl ?_
                    refine QOps.st rfl rfl (Yv.loadF lay3 rfl Job.len (Rd.row (i := 1) rfl) (by first | omega | (simp; omega)) (by decide) rfl).yl ?_
                    refine QOps.st rfl rfl (Yv.move rfl).yl ?_
                    refine QOps.st rfl rfl (Yv.add rfl rfl (by omega)).yl ?_
                    refine QOps.st rfl rfl (Yv.lss rfl rfl).yl ?_
                    refine QOps.st rfl rfl (Yv.move rfl).yl ?_
                    refine' QOps.or [_, _, _, _, _, _] _ (.tmp 226) rfl rfl rfl rfl rfl rfl (fun hg21 => ?_) ?_
                    rotate_left
                    · try replace hg21 := of_decide_eq_false hg21
                      refine QOps.st rfl rfl (Yv.move rfl).yl ?_
                      refine QOps.st rfl rfl (Yv.move rfl).yl ?_
                      refine QOps.st rfl rfl (Yv.indexAddr k el43 rfl rfl rfl (Rd.row (i := 0) rfl) (by omega)).yl ?_
                      refine QOps.st rfl rfl (Yv.loadE lay3 rfl intC_len (Rd.row (i := 0) rfl) (by first | omega | (simp; omega)) rfl).yl ?_
                      refine QOps.st rfl rfl (Yv.move rfl).yl ?_
                      refine QOps.st rfl rfl (Yv.gtr rfl rfl).yl ?_
                      exact QOps.nil rfl
                    refine QOps.nil ?_
                    refine Run.cond rfl (fun hc17 => ?_) (fun hc17 => ?_)
                    · exfalso
                      simp at hc17
                      omega
                    · try replace hc17 := of_decide_eq_false hc17
                      refine Run.skip ?_
                      refine Run.quiet (by intro h; cases h) ?_
                      refine QOps.st rfl rfl (Yv.move rfl).yl ?_
                      refine QOps.st rfl rfl (Yv.succN rfl rfl (by omega)).yl ?_
                      refine QOps.st rfl rfl (Yv.assign rfl).yl ?_
                      refine QOps.nil ?_
                      refine ⟨k + 1, ?_, ?_, (SubE.cons rfl (SubE.cons rfl (SubE.cons rfl (SubE.cons rfl (SubE.cons rfl (SubE.cons (congrArg (fun z => some (Value.int .i64 z)) hnx) (SubE.cons rfl (SubE.nil _)))))))), (List.Sublist.refl _)⟩
                      · show k + 1 ≤ _; omega
                      · first | omega | (dsimp only; omega)
                · try replace hc14 := of_decide_eq_false hc14
                  refine Run.exit ?_
                  refine Run.seq ?_
                  refine Run.quiet (by intro h; cases h) ?_
                  refine QOps.st rfl rfl (Yv.move rfl).yl ?_
                  refine QOps.st rfl rfl (Yv.not rfl).yl ?_
                  refine QOps.st rfl rfl (Yv.move rfl).yl ?_
                  refine' QOps.or [_, _, _] _ (.tmp 233) rfl rfl rfl rfl rfl rfl (fun hg22 => ?_) ?_
                  rotate_left
                  · try replace hg22 := of_decide_eq_false hg22
                    refine QOps.st rfl rfl (Yv.move rfl).yl ?_
                    refine QOps.st rfl rfl (Yv.move rfl).yl ?_
                    refine QOps.st rfl rfl (Yv.eqI rfl rfl).yl ?_
                    exact QOps.nil rfl
                  refine QOps.st rfl rfl (Yv.assign rfl).yl ?_
                  refine QOps.nil ?_
                  refine Run.ret ?_
                  refine retQ.of (.inr rfl) rfl (.tmp rfl .nil) (fun w' hw' => ?_)
                  refine ⟨?_, hw'.bel.below⟩
                  refine retB_eq ?_
                  have h9 := waits_end (ts := ts1) (js := js1) (who := who1) (k := k) (by omega)
                  exact h9
end Go.Proofs.Ytkkmmbogeeopaaa
