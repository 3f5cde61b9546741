/- Tugs: the program's own answers on assignments and on single tugs. Conditions: none. -/
import Derived.Test.YtkkmmbogeeopaaaMix7
namespace Go.Proofs.Ytkkmmbogeeopaaa
open Go.RowKit
set_option maxRecDepth 100000
def towKm (ts : List Tug) (js : List Job) (who : List Int) (id : Int) : Int × Int × Bool := if planOk ts js who = true ∧ 0 ≤ findI ts id then ((dayTo ts js who js.length).towed id, (dayTo ts js who js.length).others id, true) else (0, 0, false)
theorem km_or {p : Bool} {n : Int} : (!p || decide (n < 0)) = true ↔ ¬ (p = true ∧ 0 ≤ n) := by
  cases p
  · simp
  · simp
theorem km_and {p : Bool} {n : Int} : (!p || decide (n < 0)) = false ↔ (p = true ∧ 0 ≤ n) := by
  cases p
  · simp
  · simp
theorem TowedKilometers_spec {w : World} {id : Int} {A : Option Addr} {c : Nat} {ts : List Tug} {A2 : Option Addr} {c2 : Nat} {js : List Job} {A3 : Option Addr} {c3 : Nat} {who : List Int} (hs : Sl w 3 A ts.length c (ts.flatMap Tug.enc)) (hs2 : Sl w 5 A2 js.length c2 (js.flatMap Job.enc)) (hs3 : Sl w 1 A3 who.length c3 (who.flatMap intC)) : Calls Try.prog 22 #[.slice A ts.length c, .slice A2 js.length c2, .slice A3 who.length c3, .int .i64 id] w (RetB w (.tuple #[.int .i64 (towKm ts js who id).1, .int .i64 (towKm ts js who id).2.1, .bool (towKm ts js who id).2.2])) := by
  refine calls_of_run (vs := [_, _, _, _]) (L := [(0, _), (1, _), (2, _), (3, _)]) (n := 35) (F := []) (H := []) Try.func22 rfl rfl rfl rfl (HOk.start _) ?_
  refine Run.seq ?_
  refine Run.quiet (by intro h; cases h) ?_
  refine QOps.st rfl rfl (Yv.assign rfl).yl ?_
  refine QOps.st rfl rfl (Yv.assign rfl).yl ?_
  refine QOps.st rfl rfl (Yv.assign rfl).yl ?_
  refine QOps.nil ?_
  refine Run.seq ?_
  refine Run.seq ?_
  refine Run.quiet (by intro h; cases h) ?_
  refine QOps.st rfl rfl (Yv.move rfl).yl ?_
  refine QOps.st rfl rfl (Yv.move rfl).yl ?_
  refine QOps.st rfl rfl (Yv.move rfl).yl ?_
  refine QOps.st rfl rfl (Yl.call callable65 (.cons rfl (.cons rfl (.cons rfl (.nil)))) (fun w' hw' => isTugPlan_spec ((Rd.arg hs) w' hw') ((Rd.arg hs2) w' hw') ((Rd.arg hs3) w' hw'))) ?_
  refine QOps.st rfl rfl (Yv.not rfl).yl ?_
  refine QOps.st rfl rfl (Yv.move rfl).yl ?_
  refine' QOps.or [_, _, _, _] _ (.tmp 21) rfl rfl rfl rfl rfl rfl (fun hg1 => ?_) ?_
  rotate_left
  · try replace hg1 := of_decide_eq_false hg1
    refine QOps.st rfl rfl (Yv.move rfl).yl ?_
    refine QOps.st rfl rfl (Yv.move rfl).yl ?_
    refine QOps.st rfl rfl (Yl.call callable66 (.cons rfl (.cons rfl (.nil))) (fun w' hw' => tugIndex_spec ((Rd.arg hs) w' hw'))) ?_
    refine QOps.st rfl rfl (Yv.lss rfl rfl).yl ?_
    exact QOps.nil rfl
  refine QOps.nil ?_
  refine Run.cond rfl (fun hc1 => ?_) (fun hc1 => ?_)
  · try replace hc1 := of_decide_eq_true hc1
    have hno := km_or.1 hc1
    refine Run.seq ?_
    refine Run.quiet (by intro h; cases h) ?_
    refine QOps.st rfl rfl (Yv.assign rfl).yl ?_
    refine QOps.st rfl rfl (Yv.assign rfl).yl ?_
    refine QOps.st rfl rfl (Yv.assign rfl).yl ?_
    refine QOps.nil ?_
    refine Run.ret ?_
    refine retQ.of (.inr rfl) rfl (.tmp rfl (.tmp rfl (.tmp rfl .nil))) (fun w' hw' => ?_)
    refine ⟨?_, hw'.bel.below⟩
    unfold towKm; rw [if_neg hno]; rfl
  · try replace hc1 := of_decide_eq_false hc1
    have hyes := km_and.1 hc1
    have hP := plan_is hyes.1
    refine Run.skip ?_
    refine Run.seq ?_
    refine Run.ops ?_
    refine SOps.st rfl rfl (Yv.move rfl).yl ?_
    refine SOps.st rfl rfl (Yv.move rfl).yl ?_
    refine SOps.st rfl rfl (Yv.move rfl).yl ?_
    refine SOps.one rfl (One.callH (E := []) (H1 := []) rfl callable67 (.cons rfl (.cons rfl (.cons rfl (.nil)))) [] rfl rfl (fun w' hw' => towAll_spec ((Rd.arg hs) w' hw') ((Rd.arg hs2) w' hw') ((Rd.arg hs3) w' hw') hP.tugs hP.jobs hP.len) ?_)
    rintro ⟨⟨At1, ct1⟩, bt1, bo1⟩ -
    refine SOps.one rfl (One.alloc rfl zero93 (fun b1 => ?_))
    refine SOps.one rfl (One.store (i := 0) (off := 0) (vs := [_, _, _, _]) (cs' := [_, _, _, _]) (H' := [_, _, _, _]) lay93 rfl rfl rfl rfl rfl rfl rfl rfl rfl rfl ?_)
    refine SOps.nil ?_
    refine Run.seq ?_
    refine Run.quiet (fun _ => ⟨by kernel_rfl, by kernel_rfl⟩) ?_
    refine QOps.st rfl rfl (Yv.fieldAddr fld93_2 rfl).yl ?_
    refine QOps.st rfl rfl (Yv.loadB (i := 0) lay91 rfl rfl rfl rfl).yl ?_
    refine QOps.st rfl rfl (Yv.move rfl).yl ?_
    refine QOps.st rfl rfl (Yv.lookup (i := 2) Try.underlying91 Try.underlying3 zmap91 rfl rfl rfl).yl ?_
    refine QOps.st rfl rfl (Yv.fieldAddr fld93_3 rfl).yl ?_
    refine QOps.st rfl rfl (Yv.loadB (i := 0) lay91 rfl rfl rfl rfl).yl ?_
    refine QOps.st rfl rfl (Yv.move rfl).yl ?_
    refine QOps.st rfl rfl (Yv.lookup (i := 1) Try.underlying91 Try.underlying3 zmap91 rfl rfl rfl).yl ?_
    refine QOps.st rfl rfl (Yv.assign rfl).yl ?_
    refine QOps.st rfl rfl (Yv.assign rfl).yl ?_
    refine QOps.st rfl rfl (Yv.assign rfl).yl ?_
    refine QOps.nil ?_
    refine Run.ret ?_
    refine retQ.of (.inr rfl) rfl (.tmp rfl (.tmp rfl (.tmp rfl .nil))) (fun w' hw' => ?_)
    refine ⟨?_, hw'.bel.below⟩
    unfold towKm; rw [if_pos hyes]; rfl
theorem WaitingTicks_spec {w : World} {A : Option Addr} {c : Nat} {ts : List Tug} {A2 : Option Addr} {c2 : Nat} {js : List Job} {A3 : Option Addr} {c3 : Nat} {who : List Int} (hs : Sl w 3 A ts.length c (ts.flatMap Tug.enc)) (hs2 : Sl w 5 A2 js.length c2 (js.flatMap Job.enc)) (hs3 : Sl w 1 A3 who.length c3 (who.flatMap intC)) : Calls Try.prog 39 #[.slice A ts.length c, .slice A2 js.length c2, .slice A3 who.length c3] w (RetB w (.tuple #[.int .i64 (waitsOf ts js who).1, .bool (waitsOf ts js who).2])) := by
  refine calls_of_run (vs := [_, _, _]) (L := [(0, _), (1, _), (2, _)]) (n := 18) (F := []) (H := []) Try.func39 rfl rfl rfl rfl (HOk.start _) ?_
  refine Run.seq ?_
  refine Run.quiet (by intro h; cases h) ?_
  refine QOps.st rfl rfl (Yv.assign rfl).yl ?_
  refine QOps.st rfl rfl (Yv.assign rfl).yl ?_
  refine QOps.nil ?_
  refine Run.seq ?_
  refine Run.seq ?_
  refine Run.quiet (by intro h; cases h) ?_
  refine QOps.st rfl rfl (Yv.move rfl).yl ?_
  refine QOps.st rfl rfl (Yv.move rfl).yl ?_
  refine QOps.st rfl rfl (Yv.move rfl).yl ?_
  refine QOps.st rfl rfl (Yl.call callable65 (.cons rfl (.cons rfl (.cons rfl (.nil)))) (fun w' hw' => isTugPlan_spec ((Rd.arg hs) w' hw') ((Rd.arg hs2) w' hw') ((Rd.arg hs3) w' hw'))) ?_
  refine QOps.st rfl rfl (Yv.not rfl).yl ?_
  refine QOps.nil ?_
  refine Run.cond rfl (fun hc1 => ?_) (fun hc1 => ?_)
  · try replace hc1 := of_decide_eq_true hc1
    have hno : ¬ planOk ts js who = true := by simpa using hc1
    refine Run.seq ?_
    refine Run.quiet (by intro h; cases h) ?_
    refine QOps.st rfl rfl (Yv.assign rfl).yl ?_
    refine QOps.st rfl rfl (Yv.assign rfl).yl ?_
    refine QOps.nil ?_
    refine Run.ret ?_
    refine retQ.of (.inr rfl) rfl (.tmp rfl (.tmp rfl .nil)) (fun w' hw' => ?_)
    refine ⟨?_, hw'.bel.below⟩
    unfold waitsOf; rw [if_neg hno]; rfl
  · try replace hc1 := of_decide_eq_false hc1
    have hyes : planOk ts js who = true := by simpa using hc1
    have hP := plan_is hyes
    refine Run.skip ?_
    refine Run.seq ?_
    refine Run.ops ?_
    refine SOps.st rfl rfl (Yv.move rfl).yl ?_
    refine SOps.st rfl rfl (Yv.move rfl).yl ?_
    refine SOps.st rfl rfl (Yv.move rfl).yl ?_
    refine SOps.one rfl (One.callH (E := []) (H1 := []) rfl callable67 (.cons rfl (.cons rfl (.cons rfl (.nil)))) [] rfl rfl (fun w' hw' => towAll_spec ((Rd.arg hs) w' hw') ((Rd.arg hs2) w' hw') ((Rd.arg hs3) w' hw') hP.tugs hP.jobs hP.len) ?_)
    rintro ⟨⟨At1, ct1⟩, bt1, bo1⟩ -
    refine SOps.st rfl rfl (Yv.field Try.underlying93 rfl lay3 rfl rfl rfl).yl ?_
    refine SOps.st rfl rfl (Yv.assign rfl).yl ?_
    refine SOps.st rfl rfl (Yv.assign rfl).yl ?_
    refine SOps.nil ?_
    refine Run.ret ?_
    refine retQ.of (.inr rfl) rfl (.tmp rfl (.tmp rfl .nil)) (fun w' hw' => ?_)
    refine ⟨?_, hw'.bel.below⟩
    unfold waitsOf; rw [if_pos hyes]; rfl
theorem JobEnds_spec {w : World} {A : Option Addr} {c : Nat} {ts : List Tug} {A2 : Option Addr} {c2 : Nat} {js : List Job} {A3 : Option Addr} {c3 : Nat} {who : List Int} (hs : Sl w 3 A ts.length c (ts.flatMap Tug.enc)) (hs2 : Sl w 5 A2 js.length c2 (js.flatMap Job.enc)) (hs3 : Sl w 1 A3 who.length c3 (who.flatMap intC)) : Calls Try.prog 43 #[.slice A ts.length c, .slice A2 js.length c2, .slice A3 who.length c3] w (RetRow w 3 1 (endsOf ts js who).1.length ((endsOf ts js who).1.flatMap intC) (fun v => .tuple #[v, .bool (endsOf ts js who).2])) := by
  refine calls_of_run (vs := [_, _, _]) (L := [(0, _), (1, _), (2, _)]) (n := 18) (F := []) (H := []) Try.func43 rfl rfl rfl rfl (HOk.start _) ?_
  refine Run.seq ?_
  refine Run.quiet (by intro h; cases h) ?_
  refine QOps.st rfl rfl (Yv.assign rfl).yl ?_
  refine QOps.st rfl rfl (Yv.assign rfl).yl ?_
  refine QOps.nil ?_
  refine Run.seq ?_
  refine Run.seq ?_
  refine Run.quiet (by intro h; cases h) ?_
  refine QOps.st rfl rfl (Yv.move rfl).yl ?_
  refine QOps.st rfl rfl (Yv.move rfl).yl ?_
  refine QOps.st rfl rfl (Yv.move rfl).yl ?_
  refine QOps.st rfl rfl (Yl.call callable65 (.cons rfl (.cons rfl (.cons rfl (.nil)))) (fun w' hw' => isTugPlan_spec ((Rd.arg hs) w' hw') ((Rd.arg hs2) w' hw') ((Rd.arg hs3) w' hw'))) ?_
  refine QOps.st rfl rfl (Yv.not rfl).yl ?_
  refine QOps.nil ?_
  refine Run.cond rfl (fun hc1 => ?_) (fun hc1 => ?_)
  · try replace hc1 := of_decide_eq_true hc1
    have hno : ¬ planOk ts js who = true := by simpa using hc1
    have hz : endsOf ts js who = ([], false) := by unfold endsOf; rw [if_neg hno]
    refine Run.seq ?_
    refine Run.quiet (by intro h; cases h) ?_
    refine QOps.st rfl rfl (Yv.assign rfl).yl ?_
    refine QOps.st rfl rfl (Yv.assign rfl).yl ?_
    refine QOps.nil ?_
    refine Run.ret ?_
    refine retQ.of (.inr rfl) rfl (.tmp rfl (.tmp rfl .nil)) (fun w' hw' => ?_)
    rw [hz]; exact ⟨_, _, rfl, hw'.bel.below, ⟨by first | rfl | simp, .inl ⟨rfl, rfl⟩⟩, by simp⟩
  · try replace hc1 := of_decide_eq_false hc1
    have hyes : planOk ts js who = true := by simpa using hc1
    have hP := plan_is hyes
    have hz : endsOf ts js who = ((dayTo ts js who js.length).ends, true) := by unfold endsOf; rw [if_pos hyes]
    refine Run.skip ?_
    refine Run.seq ?_
    refine Run.ops ?_
    refine SOps.st rfl rfl (Yv.move rfl).yl ?_
    refine SOps.st rfl rfl (Yv.move rfl).yl ?_
    refine SOps.st rfl rfl (Yv.move rfl).yl ?_
    refine SOps.one rfl (One.callH (E := []) (H1 := []) rfl callable67 (.cons rfl (.cons rfl (.cons rfl (.nil)))) [] rfl rfl (fun w' hw' => towAll_spec ((Rd.arg hs) w' hw') ((Rd.arg hs2) w' hw') ((Rd.arg hs3) w' hw') hP.tugs hP.jobs hP.len) ?_)
    rintro ⟨⟨At1, ct1⟩, bt1, bo1⟩ -
    refine SOps.st rfl rfl (Yv.field Try.underlying93 rfl lay43 rfl rfl rfl).yl ?_
    refine SOps.st rfl rfl (Yv.assign rfl).yl ?_
    refine SOps.st rfl rfl (Yv.assign rfl).yl ?_
    refine SOps.nil ?_
    refine Run.ret ?_
    refine retQ.of (.inr rfl) rfl (.tmp rfl (.tmp rfl .nil)) (fun w' hw' => ?_)
    rw [hz]; exact ⟨_, _, rfl, hw'.bel.below, hw'.ent _ (List.mem_of_getElem? (i := 2) rfl), fun g hg => (hw'.own _ (List.mem_of_getElem? (i := 2) rfl) g hg).elim id (by simp)⟩
theorem Max_spec {w : World} {A : Option Addr} {c : Nat} {l : List Int} (hs : Sl w 1 A l.length c (l.flatMap intC)) (h1 : 1 ≤ l.length) (h0 : 0 ≤ nth l 0) : Calls Try.prog 85 #[.slice A l.length c] w (RetB w (.int .i64 (maxTo l l.length))) := by
  have hmx := Sl.lenle hs
  refine calls_of_run (vs := [_]) (L := [(0, _)]) (n := 25) (F := []) (H := []) Try.func85 rfl rfl rfl rfl (HOk.start _) ?_
  refine Run.seq ?_
  refine Run.quiet (by intro h; cases h) ?_
  refine QOps.st rfl rfl (Yv.assign rfl).yl ?_
  refine QOps.nil ?_
  refine Run.seq ?_
  refine Run.seq ?_
  refine Run.quiet (by intro h; cases h) ?_
  refine QOps.st rfl rfl (Yv.move rfl).yl ?_
  refine QOps.st rfl rfl (Yv.lenS el43s rfl).yl ?_
  refine QOps.st rfl rfl (Yv.lss rfl rfl).yl ?_
  refine QOps.nil ?_
  refine Run.cond rfl (fun hc1 => ?_) (fun hc1 => ?_)
  · exfalso
    have h9 := of_decide_eq_true hc1
    omega
  · try replace hc1 := of_decide_eq_false hc1
    refine Run.skip ?_
    refine Run.seq ?_
    refine Run.quiet (by intro h; cases h) ?_
    refine QOps.st rfl rfl (Yv.move rfl).yl ?_
    refine QOps.st rfl rfl (Yv.indexAddr 0 el43 rfl rfl rfl (Rd.arg hs) (by omega)).yl ?_
    refine QOps.st rfl rfl (Yv.loadE lay3 rfl intC_len (Rd.arg hs) (by first | omega | (simp; omega)) rfl).yl ?_
    refine QOps.st rfl rfl (Yv.assign rfl).yl ?_
    refine QOps.nil ?_
    refine Run.seq ?_
    refine Run.seq ?_
    refine Run.quiet (by intro h; cases h) ?_
    refine QOps.st rfl rfl (Yv.assign rfl).yl ?_
    refine QOps.nil ?_
    refine Run.block ?_
    refine Run.loop (S := Nat × Int) (fun s => match s with | (k, v) => 1 ≤ k ∧ k ≤ l.length ∧ v = maxTo l k) (fun s => match s with | (k, v) => [(0, .slice A l.length c), (3, .int .i64 v), (4, .int .i64 (k : Int))]) (fun s => match s with | (k, v) => []) (fun s => match s with | (k, v) => l.length - k) (1, nth l 0) ?_ (SubE.cons rfl (SubE.cons rfl (SubE.cons rfl (SubE.nil _)))) (List.Sublist.refl _) ?_
    · exact ⟨Nat.le_refl _, h1, by show nth l 0 = max 0 (nth l 0); omega⟩
    · rintro ⟨k, v⟩ ⟨hk1, hk, hv⟩
      show Run _ _ _ _ _ [(0, .slice A l.length c), (3, .int .i64 v), (4, .int .i64 (k : Int))] [] _
      refine Run.seq ?_
      refine Run.seq ?_
      refine Run.quiet (by intro h; cases h) ?_
      refine QOps.st rfl rfl (Yv.move rfl).yl ?_
      refine QOps.st rfl rfl (Yv.move rfl).yl ?_
      refine QOps.st rfl rfl (Yv.lenS el43s rfl).yl ?_
      refine QOps.st rfl rfl (Yv.lss rfl rfl).yl ?_
      refine QOps.nil ?_
      refine Run.cond rfl (fun hc2 => ?_) (fun hc2 => ?_)
      · try replace hc2 := of_decide_eq_true hc2
        refine Run.skip ?_
        refine Run.seq ?_
        refine Run.block ?_
        refine Run.quiet (by intro h; cases h) ?_
        refine QOps.st rfl rfl (Yv.move rfl).yl ?_
        refine QOps.st rfl rfl (Yv.move rfl).yl ?_
        refine QOps.st rfl rfl (Yv.move rfl).yl ?_
        refine QOps.st rfl rfl (Yv.indexAddr k el43 rfl rfl rfl (Rd.arg hs) (by omega)).yl ?_
        refine QOps.st rfl rfl (Yv.loadE lay3 rfl intC_len (Rd.arg hs) (by first | omega | (simp; omega)) rfl).yl ?_
        refine QOps.st rfl rfl (Yv.max2 rfl rfl).yl ?_
        refine QOps.st rfl rfl (Yv.assign rfl).yl ?_
        refine QOps.nil ?_
        refine Run.quiet (by intro h; cases h) ?_
        refine QOps.st rfl rfl (Yv.move rfl).yl ?_
        refine QOps.st rfl rfl (Yv.succN rfl rfl (by omega)).yl ?_
        refine QOps.st rfl rfl (Yv.assign rfl).yl ?_
        refine QOps.nil ?_
        refine ⟨(k + 1, _), ?_, ?_, (SubE.cons rfl (SubE.cons rfl (SubE.cons rfl (SubE.nil _)))), (List.Sublist.refl _)⟩
        · exact ⟨by omega, by omega, by rw [maxTo, hv]⟩
        · first | omega | (dsimp only; omega)
      · try replace hc2 := of_decide_eq_false hc2
        refine Run.exit ?_
        refine Run.seq ?_
        refine Run.quiet (by intro h; cases h) ?_
        refine QOps.st rfl rfl (Yv.move rfl).yl ?_
        refine QOps.st rfl rfl (Yv.assign rfl).yl ?_
        refine QOps.nil ?_
        refine Run.ret ?_
        obtain rfl : k = l.length := by omega
        subst hv
        refine retQ.of (.inr rfl) rfl (.tmp rfl .nil) (fun w' hw' => ?_)
        refine ⟨?_, hw'.bel.below⟩
        exact rfl
theorem last_ends {ts : List Tug} {js : List Job} {who : List Int} : lastOf ts js who = (maxTo (endsOf ts js who).1 (endsOf ts js who).1.length, (endsOf ts js who).2) := by
  unfold lastOf endsOf
  split
  · simp only [ends_len]
  · rfl
theorem ends_first {ts : List Tug} {js : List Job} {who : List Int} (h : ¬ (endsOf ts js who).1.length = 0) : 0 ≤ nth (endsOf ts js who).1 0 := by
  unfold endsOf at h ⊢
  split
  · rename_i hp
    have hP := plan_is hp
    rw [if_pos hp] at h
    simp only [ends_len] at h
    rw [ends_at ends_len (by omega)]
    obtain ⟨b1, b2, b3, b4, b5, b6⟩ := begin_in (who := who) hP.jobs (show 0 < js.length by omega) (day_in (who := who) hP.tugs hP.jobs (Nat.zero_le _))
    have := hP.jobs.each 0 (by omega)
    omega
  · rename_i hp
    rw [if_neg hp] at h
    exact absurd rfl h
theorem LastEnd_spec {w : World} {A : Option Addr} {c : Nat} {ts : List Tug} {A2 : Option Addr} {c2 : Nat} {js : List Job} {A3 : Option Addr} {c3 : Nat} {who : List Int} (hs : Sl w 3 A ts.length c (ts.flatMap Tug.enc)) (hs2 : Sl w 5 A2 js.length c2 (js.flatMap Job.enc)) (hs3 : Sl w 1 A3 who.length c3 (who.flatMap intC)) : Calls Try.prog 44 #[.slice A ts.length c, .slice A2 js.length c2, .slice A3 who.length c3] w (RetB w (.tuple #[.int .i64 (lastOf ts js who).1, .bool (lastOf ts js who).2])) := by
  rw [last_ends]
  refine calls_of_run (vs := [_, _, _]) (L := [(0, _), (1, _), (2, _)]) (n := 27) (F := []) (H := []) Try.func44 rfl rfl rfl rfl (HOk.start _) ?_
  refine Run.seq ?_
  refine Run.quiet (by intro h; cases h) ?_
  refine QOps.st rfl rfl (Yv.assign rfl).yl ?_
  refine QOps.st rfl rfl (Yv.assign rfl).yl ?_
  refine QOps.nil ?_
  refine Run.seq ?_
  refine Run.ops ?_
  refine SOps.st rfl rfl (Yv.move rfl).yl ?_
  refine SOps.st rfl rfl (Yv.move rfl).yl ?_
  refine SOps.st rfl rfl (Yv.move rfl).yl ?_
  refine SOps.one rfl (One.callRow rfl callable43 (.cons rfl (.cons rfl (.cons rfl (.nil)))) (fun w' hw' => JobEnds_spec ((Rd.arg hs) w' hw') ((Rd.arg hs2) w' hw') ((Rd.arg hs3) w' hw')) (fun A1 c1 => ?_))
  refine SOps.st rfl rfl (Yv.move rfl).yl ?_
  refine SOps.st rfl rfl (Yv.extract rfl rfl).yl ?_
  refine SOps.st rfl rfl (Yv.extract rfl rfl).yl ?_
  refine SOps.st rfl rfl (Yv.assign rfl).yl ?_
  refine SOps.st rfl rfl (Yv.assign rfl).yl ?_
  refine SOps.nil ?_
  refine Run.seq ?_
  refine Run.seq ?_
  refine Run.quiet (by intro h; cases h) ?_
  refine QOps.st rfl rfl (Yv.move rfl).yl ?_
  refine QOps.st rfl rfl (Yv.not rfl).yl ?_
  refine QOps.st rfl rfl (Yv.move rfl).yl ?_
  refine' QOps.or [_, _, _] _ (.tmp 22) rfl rfl rfl rfl rfl rfl (fun hg1 => ?_) ?_
  rotate_left
  · try replace hg1 := of_decide_eq_false hg1
    refine QOps.st rfl rfl (Yv.move rfl).yl ?_
    refine QOps.st rfl rfl (Yv.lenS el43s rfl).yl ?_
    refine QOps.st rfl rfl (Yv.eqI rfl rfl).yl ?_
    exact QOps.nil rfl
  refine QOps.nil ?_
  refine Run.cond rfl (fun hc1 => ?_) (fun hc1 => ?_)
  · try replace hc1 := of_decide_eq_true hc1
    have hz : maxTo (endsOf ts js who).1 (endsOf ts js who).1.length = 0 := by
          have h8 : (endsOf ts js who).1.length = 0 := by
            cases h9 : (endsOf ts js who).2
            · unfold endsOf at h9 ⊢; split at h9
              · cases h9
              · rename_i hx; rw [if_neg hx]; rfl
            · rw [h9] at hc1; simp at hc1; rw [hc1]; rfl
          rw [h8]; rfl
    refine Run.seq ?_
    refine Run.quiet (by intro h; cases h) ?_
    refine QOps.st rfl rfl (Yv.move rfl).yl ?_
    refine QOps.st rfl rfl (Yv.assign rfl).yl ?_
    refine QOps.st rfl rfl (Yv.assign rfl).yl ?_
    refine QOps.nil ?_
    refine Run.ret ?_
    refine retQ.of (.inr rfl) rfl (.tmp rfl (.tmp rfl .nil)) (fun w' hw' => ?_)
    refine ⟨?_, hw'.bel.below⟩
    rw [hz]; rfl
  · try replace hc1 := of_decide_eq_false hc1
    have hg : (endsOf ts js who).2 = true ∧ ¬ (endsOf ts js who).1.length = 0 := by
          cases h9 : (endsOf ts js who).2
          · rw [h9] at hc1; simp at hc1
          · rw [h9] at hc1; refine ⟨rfl, fun h7 => ?_⟩; rw [h7] at hc1; simp at hc1
    have hn0 := ends_first hg.2
    refine Run.skip ?_
    refine Run.seq ?_
    refine Run.quiet (by intro h; cases h) ?_
    refine QOps.st rfl rfl (Yv.move rfl).yl ?_
    refine QOps.st rfl rfl (Yl.call callable85 (.cons rfl (.nil)) (fun w' hw' => Max_spec ((Rd.row (i := 0) rfl) w' hw') (by omega) hn0)) ?_
    refine QOps.st rfl rfl (Yv.assign rfl).yl ?_
    refine QOps.st rfl rfl (Yv.assign rfl).yl ?_
    refine QOps.nil ?_
    refine Run.ret ?_
    refine retQ.of (.inr rfl) rfl (.tmp rfl (.tmp rfl .nil)) (fun w' hw' => ?_)
    refine ⟨?_, hw'.bel.below⟩
    rw [hg.1]; rfl
/-! Single tugs -/
def bestT (ts : List Tug) : Option Nat → Tug
  | none => ⟨0, 0, 0⟩
  | some b => nth ts b
theorem near_cond {ts : List Tug} {j : Job} {k : Nat} (hT : TugsIs ts) (hk : k ≤ ts.length) : (decide ((bestT ts (nearTo ts j k)).id = 0) || decide (absI ((nth ts k).place - j.src) < absI ((bestT ts (nearTo ts j k)).place - j.src))) = closer ts j k (nearTo ts j k) := by
  cases h : nearTo ts j k with
  | none => rfl
  | some b =>
    have h1 := nearTo_some h
    have h2 := hT.each b (by omega)
    show (decide ((nth ts b).id = 0) || _) = _
    rw [decide_eq_false (by omega)]
    rfl
theorem near_in {ts : List Tug} {j : Job} {k : Nat} (hT : TugsIs ts) (hk : k ≤ ts.length) : (0 ≤ (bestT ts (nearTo ts j k)).place ∧ (bestT ts (nearTo ts j k)).place ≤ 600) ∧ 0 ≤ (bestT ts (nearTo ts j k)).id := by
  cases h : nearTo ts j k with
  | none =>
    show (0 ≤ (0 : Int) ∧ (0 : Int) ≤ 600) ∧ (0 : Int) ≤ 0
    omega
  | some b =>
    have h1 := nearTo_some h
    have h2 := hT.each b (by omega)
    show (0 ≤ (nth ts b).place ∧ (nth ts b).place ≤ 600) ∧ 0 ≤ (nth ts b).id
    omega
theorem near_out {ts : List Tug} {j : Job} (hT : TugsIs ts) (hy : (tugsOk ts && jobOk j) = true) : nearOf ts j = ((bestT ts (nearTo ts j ts.length)).id, decide (0 < (bestT ts (nearTo ts j ts.length)).id)) := by
  unfold nearOf
  rw [if_pos hy]
  cases h : nearTo ts j ts.length with
  | none => rfl
  | some b =>
    have h1 := nearTo_some h
    have h2 := hT.each b (by omega)
    show ((nth ts b).id, true) = ((nth ts b).id, decide (0 < (nth ts b).id))
    rw [decide_eq_true (by omega)]
theorem near_cond' {ts : List Tug} {j : Job} {k : Nat} {o : Option Nat} (hT : TugsIs ts) (hk : k ≤ ts.length) (ho : o = nearTo ts j k) : (decide ((bestT ts o).id = 0) || decide (absI ((nth ts k).place - j.src) < absI ((bestT ts o).place - j.src))) = closer ts j k (nearTo ts j k) := by
  subst ho
  exact near_cond hT hk
theorem both_no {a b : Bool} (h : (!a || !b) = true) : ¬ (a && b) = true := by cases a <;> cases b <;> simp at h ⊢
theorem both_yes {a b : Bool} (h : (!a || !b) = false) : (a && b) = true := by cases a <;> cases b <;> simp at h ⊢
theorem NearestTug_spec {w : World} {A : Option Addr} {c : Nat} {ts : List Tug} {j : Job} (hs : Sl w 3 A ts.length c (ts.flatMap Tug.enc)) : Calls Try.prog 25 #[.slice A ts.length c, .agg j.enc.toArray] w (RetB w (.tuple #[.int .i64 (nearOf ts j).1, .bool (nearOf ts j).2])) := by
  refine calls_of_run (vs := [_, _]) (L := [(0, _), (1, _)]) (n := 56) (F := []) (H := []) Try.func25 rfl rfl rfl rfl (HOk.start _) ?_
  refine Run.seq ?_
  refine Run.ops ?_
  refine SOps.one rfl (One.box (cs := [_, _, _, _, _]) rfl rfl rfl (fun b1 => ?_))
  refine SOps.st rfl rfl (Yv.assign rfl).yl ?_
  refine SOps.st rfl rfl (Yv.assign rfl).yl ?_
  refine SOps.nil ?_
  refine Run.seq ?_
  refine Run.seq ?_
  refine Run.quiet (by intro h; cases h) ?_
  refine QOps.st rfl rfl (Yv.move rfl).yl ?_
  refine QOps.st rfl rfl (Yl.call callable34 (.cons rfl (.nil)) (fun w' hw' => AreTugs_spec ((Rd.arg hs) w' hw'))) ?_
  refine QOps.st rfl rfl (Yv.not rfl).yl ?_
  refine QOps.st rfl rfl (Yv.move rfl).yl ?_
  refine' QOps.or [_, _, _] _ (.tmp 15) rfl rfl rfl rfl rfl rfl (fun hg1 => ?_) ?_
  rotate_left
  · try replace hg1 := of_decide_eq_false hg1
    refine QOps.st rfl rfl (Yv.loadBs (i := 0) lay51 rfl rfl rfl rfl).yl ?_
    refine QOps.st rfl rfl (Yl.call callable72 (.cons rfl (.nil)) (fun w' hw' => isTugJob_spec)) ?_
    refine QOps.st rfl rfl (Yv.not rfl).yl ?_
    exact QOps.nil rfl
  refine QOps.nil ?_
  refine Run.cond rfl (fun hc1 => ?_) (fun hc1 => ?_)
  · try replace hc1 := of_decide_eq_true hc1
    have hno := both_no hc1
    refine Run.seq ?_
    refine Run.quiet (by intro h; cases h) ?_
    refine QOps.st rfl rfl (Yv.assign rfl).yl ?_
    refine QOps.st rfl rfl (Yv.assign rfl).yl ?_
    refine QOps.nil ?_
    refine Run.ret ?_
    refine retQ.of (.inr rfl) rfl (.tmp rfl (.tmp rfl .nil)) (fun w' hw' => ?_)
    refine ⟨?_, hw'.bel.below⟩
    unfold nearOf; rw [if_neg hno]; rfl
  · try replace hc1 := of_decide_eq_false hc1
    have hyes := both_yes hc1
    have hy2 := hyes
    rw [Bool.and_eq_true] at hy2
    have hT := tugs_is hy2.1
    have htl := hT.len
    have hjs : (0 ≤ j.src ∧ j.src ≤ 600) := by have h9 := hy2.2; simp only [jobOk, Bool.and_eq_true, inB_iff] at h9; exact h9.1.1.1.2
    refine Run.skip ?_
    refine Run.seq ?_
    refine Run.ops ?_
    refine SOps.st rfl rfl (Yv.buildG (pv := []) (cs := [_, _, _]) (fun _ => [.int .i64 0, .int .i64 0, .int .i64 0]) .nil rfl rfl (by kernel_rfl)).yl ?_
    refine SOps.one rfl (One.alloc rfl zero49 (fun b2 => ?_))
    refine SOps.one rfl (One.store (i := 0) (off := 0) (vs := [_, _, _]) (cs' := [_, _, _]) (H' := [_, _]) lay49 rfl rfl rfl rfl rfl rfl rfl rfl rfl rfl ?_)
    refine SOps.nil ?_
    refine Run.seq ?_
    refine Run.seq ?_
    refine Run.quiet (by intro h; cases h) ?_
    refine QOps.st rfl rfl (Yv.move rfl).yl ?_
    refine QOps.st rfl rfl (Yv.lenS el41s rfl).yl ?_
    refine QOps.st rfl rfl (Yv.move rfl).yl ?_
    refine QOps.nil ?_
    refine Run.block ?_
    refine Run.loop (S := Nat × Option Nat) (fun s => match s with | (k, o) => k ≤ ts.length ∧ o = nearTo ts j k) (fun s => match s with | (k, o) => [(3, .pointer (some ⟨b1, 0, none⟩)), (6, .pointer (some ⟨b2, 0, none⟩)), (18, .slice A ts.length c), (19, .int .i64 (ts.length : Int)), (20, .int .i64 (k : Int))]) (fun s => match s with | (k, o) => [.blk b2 49 (Tug.enc (bestT ts o)), .blk b1 51 (Job.enc j)]) (fun s => match s with | (k, o) => ts.length - k) (0, none) ?_ (SubE.cons rfl (SubE.cons rfl (SubE.cons rfl (SubE.cons rfl (SubE.cons rfl (SubE.nil _)))))) (List.Sublist.refl _) ?_
    · exact ⟨Nat.zero_le _, rfl⟩
    · rintro ⟨k, o⟩ ⟨hk, ho⟩
      show Run _ _ _ _ _ [(3, .pointer (some ⟨b1, 0, none⟩)), (6, .pointer (some ⟨b2, 0, none⟩)), (18, .slice A ts.length c), (19, .int .i64 (ts.length : Int)), (20, .int .i64 (k : Int))] [.blk b2 49 (Tug.enc (bestT ts o)), .blk b1 51 (Job.enc j)] _
      refine Run.seq ?_
      refine Run.quiet (by intro h; cases h) ?_
      refine QOps.st rfl rfl (Yv.lss rfl rfl).yl ?_
      refine QOps.nil ?_
      refine Run.seq ?_
      refine Run.cond rfl (fun hc2 => ?_) (fun hc2 => ?_)
      · try replace hc2 := of_decide_eq_true hc2
        have hni := near_in (j := j) (k := k) hT hk
        rw [← ho] at hni
        have hke := hT.each k (by omega)
        refine Run.skip ?_
        refine Run.seq ?_
        refine Run.block ?_
        refine Run.seq ?_
        refine Run.ops ?_
        refine SOps.st rfl rfl (Yv.indexAddr k el41 rfl rfl rfl (Rd.arg hs) (by omega)).yl ?_
        refine SOps.st rfl rfl (Yv.loadEs lay49 rfl Tug.len (Rd.arg hs) (by first | omega | (simp; omega)) (by decide)).yl ?_
        refine SOps.one rfl (One.alloc rfl zero49 (fun b3 => ?_))
        refine SOps.one rfl (One.store (i := 0) (off := 0) (vs := [_, _, _]) (cs' := [_, _, _]) (H' := [_, _, _]) lay49 rfl rfl rfl rfl rfl rfl rfl rfl rfl rfl ?_)
        refine SOps.nil ?_
        refine Run.seq ?_
        refine Run.quiet (fun _ => ⟨by kernel_rfl, by kernel_rfl⟩) ?_
        refine QOps.st rfl rfl (Yv.fieldAddr fld49_2 rfl).yl ?_
        refine QOps.st rfl rfl (Yv.loadB (i := 0) lay3 rfl rfl rfl rfl).yl ?_
        refine QOps.st rfl rfl (Yv.fieldAddr fld51_3 rfl).yl ?_
        refine QOps.st rfl rfl (Yv.loadB (i := 2) lay3 rfl rfl rfl rfl).yl ?_
        refine QOps.st rfl rfl (Yv.geq rfl rfl).yl ?_
        refine QOps.st rfl rfl (Yv.move rfl).yl ?_
        refine' QOps.and [_, _, _, _, _, _, _, _, _, _, _, _, _, _, _, _, _, _] _ (.tmp 47) rfl rfl rfl rfl rfl rfl (fun hg2 => ?_) ?_
        rotate_left
        · try replace hg2 := of_decide_eq_true hg2
          refine QOps.st rfl rfl (Yv.fieldAddr fld49_0 rfl).yl ?_
          refine QOps.st rfl rfl (Yv.loadB (i := 1) lay3 rfl rfl rfl rfl).yl ?_
          refine QOps.st rfl rfl (Yv.eqI rfl rfl).yl ?_
          refine QOps.st rfl rfl (Yv.move rfl).yl ?_
          refine' QOps.or [_, _, _, _, _, _, _, _, _, _, _, _, _] _ (.tmp 46) rfl rfl rfl rfl rfl rfl (fun hg3 => ?_) ?_
          rotate_left
          · try replace hg3 := of_decide_eq_false hg3
            refine QOps.st rfl rfl (Yv.fieldAddr fld49_1 rfl).yl ?_
            refine QOps.st rfl rfl (Yv.loadB (i := 0) lay3 rfl rfl rfl rfl).yl ?_
            refine QOps.st rfl rfl (Yv.fieldAddr fld51_1 rfl).yl ?_
            refine QOps.st rfl rfl (Yv.loadB (i := 2) lay3 rfl rfl rfl rfl).yl ?_
            refine QOps.st rfl rfl (Yv.sub rfl rfl (by omega)).yl ?_
            refine QOps.st rfl rfl (Yl.call callable73 (.cons rfl (.nil)) (fun w' hw' => absOf_spec (by omega))) ?_
            refine QOps.st rfl rfl (Yv.fieldAddr fld49_1 rfl).yl ?_
            refine QOps.st rfl rfl (Yv.loadB (i := 1) lay3 rfl rfl rfl rfl).yl ?_
            refine QOps.st rfl rfl (Yv.fieldAddr fld51_1 rfl).yl ?_
            refine QOps.st rfl rfl (Yv.loadB (i := 2) lay3 rfl rfl rfl rfl).yl ?_
            refine QOps.st rfl rfl (Yv.sub rfl rfl (by omega)).yl ?_
            refine QOps.st rfl rfl (Yl.call callable73 (.cons rfl (.nil)) (fun w' hw' => absOf_spec (by omega))) ?_
            refine QOps.st rfl rfl (Yv.lss rfl rfl).yl ?_
            exact QOps.nil rfl
          exact QOps.nil rfl
        refine QOps.nil ?_
        refine Run.cond rfl (fun hc3 => ?_) (fun hc3 => ?_)
        · try replace hc3 := of_decide_eq_true hc3
          have hst : nearTo ts j (k + 1) = some k := by rw [nearTo, if_pos (by rw [← near_cond' hT hk ho]; exact hc3)]
          refine Run.ops ?_
          refine SOps.st rfl rfl (Yv.loadBs (i := 0) lay49 rfl rfl rfl rfl).yl ?_
          refine SOps.one rfl (One.store (i := 1) (off := 0) (vs := [_, _, _]) (cs' := [_, _, _]) (H' := [_, _, _]) lay49 rfl rfl rfl rfl rfl rfl rfl rfl rfl rfl ?_)
          refine SOps.nil ?_
          refine Run.quiet (by intro h; cases h) ?_
          refine QOps.st rfl rfl (Yv.succN rfl rfl (by omega)).yl ?_
          refine QOps.st rfl rfl (Yv.move rfl).yl ?_
          refine QOps.nil ?_
          refine ⟨(k + 1, some k), ?_, ?_, (SubE.cons rfl (SubE.cons rfl (SubE.cons rfl (SubE.cons rfl (SubE.cons rfl (SubE.nil _)))))), (List.Sublist.cons _ (List.Sublist.refl _))⟩
          · exact ⟨by omega, hst.symm⟩
          · first | omega | (dsimp only; omega)
        · try replace hc3 := of_decide_eq_false hc3
          have hst : nearTo ts j (k + 1) = nearTo ts j k := by rw [nearTo, if_neg (by rw [← near_cond' hT hk ho, hc3]; simp)]
          refine Run.skip ?_
          refine Run.quiet (by intro h; cases h) ?_
          refine QOps.st rfl rfl (Yv.succN rfl rfl (by omega)).yl ?_
          refine QOps.st rfl rfl (Yv.move rfl).yl ?_
          refine QOps.nil ?_
          refine ⟨(k + 1, o), ?_, ?_, (SubE.cons rfl (SubE.cons rfl (SubE.cons rfl (SubE.cons rfl (SubE.cons rfl (SubE.nil _)))))), (List.Sublist.cons _ (List.Sublist.refl _))⟩
          · exact ⟨by omega, by rw [hst, ho]⟩
          · first | omega | (dsimp only; omega)
      · try replace hc2 := of_decide_eq_false hc2
        obtain rfl : k = ts.length := by omega
        refine Run.exit ?_
        refine Run.seq ?_
        refine Run.quiet (fun _ => ⟨by kernel_rfl, by kernel_rfl⟩) ?_
        refine QOps.st rfl rfl (Yv.fieldAddr fld49_0 rfl).yl ?_
        refine QOps.st rfl rfl (Yv.loadB (i := 0) lay3 rfl rfl rfl rfl).yl ?_
        refine QOps.st rfl rfl (Yv.fieldAddr fld49_0 rfl).yl ?_
        refine QOps.st rfl rfl (Yv.loadB (i := 0) lay3 rfl rfl rfl rfl).yl ?_
        refine QOps.st rfl rfl (Yv.gtr rfl rfl).yl ?_
        refine QOps.st rfl rfl (Yv.assign rfl).yl ?_
        refine QOps.st rfl rfl (Yv.assign rfl).yl ?_
        refine QOps.nil ?_
        refine Run.ret ?_
        refine retQ.of (.inr rfl) rfl (.tmp rfl (.tmp rfl .nil)) (fun w' hw' => ?_)
        refine ⟨?_, hw'.bel.below⟩
        rw [near_out hT hyes, ← ho]; rfl
theorem StrongTugs_spec {w : World} {A : Option Addr} {c : Nat} {ts : List Tug} {p : Int} (hs : Sl w 3 A ts.length c (ts.flatMap Tug.enc)) : Calls Try.prog 27 #[.slice A ts.length c, .int .i64 p] w (RetRow w 3 1 (strongOf ts p).1.length ((strongOf ts p).1.flatMap intC) (fun v => .tuple #[v, .bool (strongOf ts p).2])) := by
  refine calls_of_run (vs := [_, _]) (L := [(0, _), (1, _)]) (n := 35) (F := []) (H := []) Try.func27 rfl rfl rfl rfl (HOk.start _) ?_
  refine Run.seq ?_
  refine Run.quiet (by intro h; cases h) ?_
  refine QOps.st rfl rfl (Yv.assign rfl).yl ?_
  refine QOps.st rfl rfl (Yv.assign rfl).yl ?_
  refine QOps.nil ?_
  refine Run.seq ?_
  refine Run.seq ?_
  refine Run.quiet (by intro h; cases h) ?_
  refine QOps.st rfl rfl (Yv.move rfl).yl ?_
  refine QOps.st rfl rfl (Yl.call callable34 (.cons rfl (.nil)) (fun w' hw' => AreTugs_spec ((Rd.arg hs) w' hw'))) ?_
  refine QOps.st rfl rfl (Yv.not rfl).yl ?_
  refine QOps.st rfl rfl (Yv.move rfl).yl ?_
  refine' QOps.or [_, _, _] _ (.tmp 15) rfl rfl rfl rfl rfl rfl (fun hg1 => ?_) ?_
  rotate_left
  · try replace hg1 := of_decide_eq_false hg1
    refine QOps.st rfl rfl (Yv.move rfl).yl ?_
    refine QOps.st rfl rfl (Yl.call callable76 (.cons rfl (.nil)) (fun w' hw' => isPower_spec)) ?_
    refine QOps.st rfl rfl (Yv.not rfl).yl ?_
    exact QOps.nil rfl
  refine QOps.nil ?_
  refine Run.cond rfl (fun hc1 => ?_) (fun hc1 => ?_)
  · try replace hc1 := of_decide_eq_true hc1
    have hz : strongOf ts p = ([], false) := by unfold strongOf; rw [if_neg (both_no hc1)]
    refine Run.seq ?_
    refine Run.quiet (by intro h; cases h) ?_
    refine QOps.st rfl rfl (Yv.assign rfl).yl ?_
    refine QOps.st rfl rfl (Yv.assign rfl).yl ?_
    refine QOps.nil ?_
    refine Run.ret ?_
    refine retQ.of (.inr rfl) rfl (.tmp rfl (.tmp rfl .nil)) (fun w' hw' => ?_)
    rw [hz]; exact ⟨_, _, rfl, hw'.bel.below, ⟨by first | rfl | simp, .inl ⟨rfl, rfl⟩⟩, by simp⟩
  · try replace hc1 := of_decide_eq_false hc1
    have hyes := both_yes hc1
    have hy2 := hyes
    rw [Bool.and_eq_true] at hy2
    have hT := tugs_is hy2.1
    have htl := hT.len
    refine Run.skip ?_
    refine Run.seq ?_
    refine Run.ops ?_
    refine SOps.one rfl (One.buildSliceG (pv := []) (cs := []) (fun _ => []) rfl el43 .nil rfl rfl (by kernel_rfl) rfl rfl (fun b1 => ?_))
    refine SOps.st rfl rfl (Yv.assign rfl).yl ?_
    refine SOps.nil ?_
    refine Run.seq ?_
    refine Run.seq ?_
    refine Run.quiet (by intro h; cases h) ?_
    refine QOps.st rfl rfl (Yv.move rfl).yl ?_
    refine QOps.st rfl rfl (Yv.lenS el41s rfl).yl ?_
    refine QOps.st rfl rfl (Yv.move rfl).yl ?_
    refine QOps.nil ?_
    refine Run.block ?_
    refine Run.loop (S := Nat × List Int × Option Addr × Nat) (fun s => match s with | (k, o, A4, c4) => k ≤ ts.length ∧ o = strongTo ts p k) (fun s => match s with | (k, o, A4, c4) => [(1, .int .i64 p), (6, .slice A4 o.length c4), (18, .slice A ts.length c), (19, .int .i64 (ts.length : Int)), (20, .int .i64 (k : Int))]) (fun s => match s with | (k, o, A4, c4) => [.row A4 c4 3 1 o.length (o.flatMap intC)]) (fun s => match s with | (k, o, A4, c4) => ts.length - k) (0, [], some ⟨b1, 0, none⟩, 0) ?_ (SubE.cons rfl (SubE.cons rfl (SubE.cons rfl (SubE.cons rfl (SubE.cons rfl (SubE.nil _)))))) (List.Sublist.refl _) ?_
    · exact ⟨Nat.zero_le _, rfl⟩
    · rintro ⟨k, o, A4, c4⟩ ⟨hk, ho⟩
      show Run _ _ _ _ _ [(1, .int .i64 p), (6, .slice A4 o.length c4), (18, .slice A ts.length c), (19, .int .i64 (ts.length : Int)), (20, .int .i64 (k : Int))] [.row A4 c4 3 1 o.length (o.flatMap intC)] _
      have hol : o.length ≤ k := by rw [ho]; exact strongTo_len
      refine Run.seq ?_
      refine Run.quiet (by intro h; cases h) ?_
      refine QOps.st rfl rfl (Yv.lss rfl rfl).yl ?_
      refine QOps.nil ?_
      refine Run.seq ?_
      refine Run.cond rfl (fun hc2 => ?_) (fun hc2 => ?_)
      · try replace hc2 := of_decide_eq_true hc2
        have hsl := strongTo_len (ts := ts) (p := p) (n := k)
        refine Run.skip ?_
        refine Run.seq ?_
        refine Run.block ?_
        refine Run.seq ?_
        refine Run.ops ?_
        refine SOps.st rfl rfl (Yv.indexAddr k el41 rfl rfl rfl (Rd.arg hs) (by omega)).yl ?_
        refine SOps.st rfl rfl (Yv.loadEs lay49 rfl Tug.len (Rd.arg hs) (by first | omega | (simp; omega)) (by decide)).yl ?_
        refine SOps.one rfl (One.alloc rfl zero49 (fun b2 => ?_))
        refine SOps.one rfl (One.store (i := 0) (off := 0) (vs := [_, _, _]) (cs' := [_, _, _]) (H' := [_, _]) lay49 rfl rfl rfl rfl rfl rfl rfl rfl rfl rfl ?_)
        refine SOps.nil ?_
        refine Run.seq ?_
        refine Run.quiet (by intro h; cases h) ?_
        refine QOps.st rfl rfl (Yv.fieldAddr fld49_2 rfl).yl ?_
        refine QOps.st rfl rfl (Yv.loadB (i := 0) lay3 rfl rfl rfl rfl).yl ?_
        refine QOps.st rfl rfl (Yv.move rfl).yl ?_
        refine QOps.st rfl rfl (Yv.geq rfl rfl).yl ?_
        refine QOps.nil ?_
        refine Run.cond rfl (fun hc3 => ?_) (fun hc3 => ?_)
        · try replace hc3 := of_decide_eq_true hc3
          have hst : strongTo ts p (k + 1) = strongTo ts p k ++ [(nth ts k).id] := by rw [strongTo, if_pos hc3]
          refine Run.ops ?_
          refine SOps.st rfl rfl (Yv.move rfl).yl ?_
          refine SOps.st rfl rfl (Yv.fieldAddr fld49_0 rfl).yl ?_
          refine SOps.st rfl rfl (Yv.loadB (i := 0) lay3 rfl rfl rfl rfl).yl ?_
          refine SOps.one rfl (One.buildSliceG (pv := [(0, _)]) (cs := [_]) (fun l => match l with | [a0_0] => [a0_0] | _ => []) rfl el43 (.cons rfl (.nil)) rfl rfl (by kernel_rfl) rfl rfl (fun b3 => ?_))
          refine SOps.one rfl (One.append (enc := intC) (l := o) (l2 := [(nth ts (k)).id]) (m' := (o ++ [(nth ts (k)).id]).length) (i := 2) (H' := fun A c => [_, _, _]) rfl el43 zero3 rfl (by decide) rfl rfl rfl (Rd.row (i := 0) rfl) (fun _ => rfl) (by simp) (by simp; omega) (by simp; omega) (fun _ _ => rfl) (fun A1 c1 => ?_))
          refine SOps.st rfl rfl (Yv.assign rfl).yl ?_
          refine SOps.nil ?_
          refine Run.quiet (by intro h; cases h) ?_
          refine QOps.st rfl rfl (Yv.succN rfl rfl (by omega)).yl ?_
          refine QOps.st rfl rfl (Yv.move rfl).yl ?_
          refine QOps.nil ?_
          refine ⟨(k + 1, _, _, _), ?_, ?_, (SubE.cons rfl (SubE.cons rfl (SubE.cons rfl (SubE.cons rfl (SubE.cons rfl (SubE.nil _)))))), (List.Sublist.cons _ (List.Sublist.cons _ (List.Sublist.refl _)))⟩
          · exact ⟨by omega, by rw [hst, ← ho]⟩
          · first | omega | (dsimp only; omega)
        · try replace hc3 := of_decide_eq_false hc3
          have hst : strongTo ts p (k + 1) = strongTo ts p k := by rw [strongTo, if_neg hc3]
          refine Run.skip ?_
          refine Run.quiet (by intro h; cases h) ?_
          refine QOps.st rfl rfl (Yv.succN rfl rfl (by omega)).yl ?_
          refine QOps.st rfl rfl (Yv.move rfl).yl ?_
          refine QOps.nil ?_
          refine ⟨(k + 1, o, A4, c4), ?_, ?_, (SubE.cons rfl (SubE.cons rfl (SubE.cons rfl (SubE.cons rfl (SubE.cons rfl (SubE.nil _)))))), (List.Sublist.cons _ (List.Sublist.refl _))⟩
          · exact ⟨by omega, by rw [hst, ← ho]⟩
          · first | omega | (dsimp only; omega)
      · try replace hc2 := of_decide_eq_false hc2
        obtain rfl : k = ts.length := by omega
        have hz : strongOf ts p = (o, true) := by unfold strongOf; rw [if_pos hyes, ho]
        refine Run.exit ?_
        refine Run.seq ?_
        refine Run.quiet (by intro h; cases h) ?_
        refine QOps.st rfl rfl (Yv.move rfl).yl ?_
        refine QOps.st rfl rfl (Yv.assign rfl).yl ?_
        refine QOps.st rfl rfl (Yv.assign rfl).yl ?_
        refine QOps.nil ?_
        refine Run.ret ?_
        refine retQ.of (.inr rfl) rfl (.tmp rfl (.tmp rfl .nil)) (fun w' hw' => ?_)
        rw [hz]; exact ⟨_, _, rfl, hw'.bel.below, hw'.ent _ (List.mem_of_getElem? (i := 0) rfl), fun g hg => (hw'.own _ (List.mem_of_getElem? (i := 0) rfl) g hg).elim id (by simp)⟩
end Go.Proofs.Ytkkmmbogeeopaaa
