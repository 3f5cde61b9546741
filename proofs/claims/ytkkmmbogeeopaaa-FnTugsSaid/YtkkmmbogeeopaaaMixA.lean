/- Tugs: the reference's answers on assignments and on single tugs. Conditions: none. -/
import Derived.Test.YtkkmmbogeeopaaaMix9
namespace Go.Proofs.Ytkkmmbogeeopaaa
open Go.RowKit
set_option maxRecDepth 100000
theorem l17Waiting_spec {w : World} {A : Option Addr} {c : Nat} {ts : List Tug} {A2 : Option Addr} {c2 : Nat} {js : List Job} {A3 : Option Addr} {c3 : Nat} {who : List Int} (hs : Sl w 3 A ts.length c (ts.flatMap Tug.enc)) (hs2 : Sl w 5 A2 js.length c2 (js.flatMap Job.enc)) (hs3 : Sl w 1 A3 who.length c3 (who.flatMap intC)) (hT : TugsIs ts) (hJ : JobsIs js) (hwl : who.length ≤ js.length) (hW : ∀ i, i < who.length → takes ts (nth js i) (nth who i) = true) : Calls Try.prog 81 #[.slice A ts.length c, .slice A2 js.length c2, .slice A3 who.length c3] w (RetB w (.int .i64 (dayTo ts js who who.length).waits)) := by
  have hjl := hJ.len
  have hsl := starts_len (ts := ts) (js := js) (who := who) who.length
  refine calls_of_run (vs := [_, _, _]) (L := [(0, _), (1, _), (2, _)]) (n := 37) (F := []) (H := []) Try.func81 rfl rfl rfl rfl (HOk.start _) ?_
  refine Run.seq ?_
  refine Run.quiet (by intro h; cases h) ?_
  refine QOps.st rfl rfl (Yv.assign rfl).yl ?_
  refine QOps.nil ?_
  refine Run.seq ?_
  refine Run.ops ?_
  refine SOps.st rfl rfl (Yv.move rfl).yl ?_
  refine SOps.st rfl rfl (Yv.move rfl).yl ?_
  refine SOps.st rfl rfl (Yv.move rfl).yl ?_
  refine SOps.one rfl (One.callRow2 rfl callable86 (.cons rfl (.cons rfl (.cons rfl (.nil)))) (fun w' hw' => l17Run_spec ((Rd.arg hs) w' hw') ((Rd.arg hs2) w' hw') ((Rd.arg hs3) w' hw') hT hJ (by omega) hW) (fun A11 c11 A12 c12 => ?_))
  refine SOps.st rfl rfl (Yv.move rfl).yl ?_
  refine SOps.st rfl rfl (Yv.extract rfl rfl).yl ?_
  refine SOps.st rfl rfl (Yv.extract rfl rfl).yl ?_
  refine SOps.st rfl rfl (Yv.assign rfl).yl ?_
  refine SOps.st rfl rfl (Yv.assign rfl).yl ?_
  refine SOps.nil ?_
  refine Run.seq ?_
  refine Run.quiet (by intro h; cases h) ?_
  refine QOps.st rfl rfl (Yv.assign rfl).yl ?_
  refine QOps.nil ?_
  refine Run.seq ?_
  refine Run.seq ?_
  refine Run.quiet (by intro h; cases h) ?_
  refine QOps.st rfl rfl (Yv.assign rfl).yl ?_
  refine QOps.nil ?_
  refine Run.block ?_
  refine Run.loop (S := Nat) (fun s => match s with | k => k ≤ who.length) (fun s => match s with | k => [(1, .slice A2 js.length c2), (7, .slice A11 ((dayTo ts js who who.length).starts.length) c11), (9, .int .i64 (dayTo ts js who k).waits), (10, .int .i64 (k : Int))]) (fun s => match s with | k => [.row A11 c11 3 1 (dayTo ts js who who.length).starts.length ((dayTo ts js who who.length).starts.flatMap intC)]) (fun s => match s with | k => who.length - k) 0 ?_ (SubE.cons rfl (SubE.cons rfl (SubE.cons rfl (SubE.cons rfl (SubE.nil _))))) (List.Sublist.cons_cons _ (List.nil_sublist _)) ?_
  · exact Nat.zero_le _
  · rintro k hk
    show Run _ _ _ _ _ [(1, .slice A2 js.length c2), (7, .slice A11 ((dayTo ts js who who.length).starts.length) c11), (9, .int .i64 (dayTo ts js who k).waits), (10, .int .i64 (k : Int))] [.row A11 c11 3 1 (dayTo ts js who who.length).starts.length ((dayTo ts js who who.length).starts.flatMap intC)] _
    refine Run.seq ?_
    refine Run.seq ?_
    refine Run.quiet (by intro h; cases h) ?_
    refine QOps.st rfl rfl (Yv.move rfl).yl ?_
    refine QOps.st rfl rfl (Yv.move rfl).yl ?_
    refine QOps.st rfl rfl (Yv.lenS el43s rfl).yl ?_
    refine QOps.st rfl rfl (Yv.lss rfl rfl).yl ?_
    refine QOps.nil ?_
    refine Run.cond rfl (fun hc1 => ?_) (fun hc1 => ?_)
    · try replace hc1 := of_decide_eq_true hc1
      have hwt := (day_in (who := who) hT hJ (show k ≤ js.length by omega)).waits
      have hst := starts_at (ts := ts) (js := js) (who := who) (n := who.length) (i := k) starts_len (by omega)
      have hbi := begin_in (who := who) hJ (show k < js.length by omega) (day_in (who := who) hT hJ (show k ≤ js.length by omega))
      have hji := hJ.each k (by omega)
      rw [← hst] at hbi
      have hnx : (dayTo ts js who k).waits + nth (dayTo ts js who who.length).starts k - (nth js k).ready = (dayTo ts js who (k + 1)).waits := by rw [waits_next, hst]; omega
      refine Run.skip ?_
      refine Run.seq ?_
      refine Run.block ?_
      refine Run.quiet (fun _ => ⟨by kernel_rfl, by kernel_rfl⟩) ?_
      refine QOps.st rfl rfl (Yv.move rfl).yl ?_
      refine QOps.st rfl rfl (Yv.move rfl).yl ?_
      refine QOps.st rfl rfl (Yv.move rfl).yl ?_
      refine QOps.st rfl rfl (Yv.indexAddr k el43 rfl rfl rfl (Rd.row (i := 0) rfl) (by omega)).yl ?_
      refine QOps.st rfl rfl (Yv.loadE lay3 rfl intC_len (Rd.row (i := 0) rfl) (by first | omega | (simp; omega)) rfl).yl ?_
      refine QOps.st rfl rfl (Yv.add rfl rfl (by omega)).yl ?_
      refine QOps.st rfl rfl (Yv.move rfl).yl ?_
      refine QOps.st rfl rfl (Yv.move rfl).yl ?_
      refine QOps.st rfl rfl (Yv.indexAddr k el42 rfl rfl rfl (Rd.arg hs2) (by omega)).yl ?_
      refine QOps.st rfl rfl (Yv.fieldAddr fld51_4 rfl).yl ?_
      refine QOps.st rfl rfl (Yv.loadF lay3 rfl Job.len (Rd.arg hs2) (by first | omega | (simp; omega)) (by decide) rfl).yl ?_
      refine QOps.st rfl rfl (Yv.sub rfl rfl (by omega)).yl ?_
      refine QOps.st rfl rfl (Yv.assign rfl).yl ?_
      refine QOps.nil ?_
      refine Run.quiet (by intro h; cases h) ?_
      refine QOps.st rfl rfl (Yv.move rfl).yl ?_
      refine QOps.st rfl rfl (Yv.succN rfl rfl (by omega)).yl ?_
      refine QOps.st rfl rfl (Yv.assign rfl).yl ?_
      refine QOps.nil ?_
      refine ⟨k + 1, ?_, ?_, (SubE.cons rfl (SubE.cons rfl (SubE.cons (congrArg (fun z => some (Value.int .i64 z)) hnx) (SubE.cons rfl (SubE.nil _))))), (List.Sublist.refl _)⟩
      · show k + 1 ≤ _; omega
      · first | omega | (dsimp only; omega)
    · try replace hc1 := of_decide_eq_false hc1
      obtain rfl : k = who.length := by omega
      refine Run.exit ?_
      refine Run.seq ?_
      refine Run.quiet (by intro h; cases h) ?_
      refine QOps.st rfl rfl (Yv.move rfl).yl ?_
      refine QOps.st rfl rfl (Yv.assign rfl).yl ?_
      refine QOps.nil ?_
      refine Run.ret ?_
      refine retQ.of (.inr rfl) rfl (.tmp rfl .nil) (fun w' hw' => ?_)
      refine ⟨?_, hw'.bel.below⟩
      exact rfl
theorem sWaitingTicks_spec {w : World} {A : Option Addr} {c : Nat} {ts : List Tug} {A2 : Option Addr} {c2 : Nat} {js : List Job} {A3 : Option Addr} {c3 : Nat} {who : List Int} (hs : Sl w 3 A ts.length c (ts.flatMap Tug.enc)) (hs2 : Sl w 5 A2 js.length c2 (js.flatMap Job.enc)) (hs3 : Sl w 1 A3 who.length c3 (who.flatMap intC)) : Calls Try.prog 40 #[.slice A ts.length c, .slice A2 js.length c2, .slice A3 who.length c3] w (RetB w (.tuple #[.int .i64 (waitsOf ts js who).1, .bool (waitsOf ts js who).2])) := by
  refine calls_of_run (vs := [_, _, _]) (L := [(0, _), (1, _), (2, _)]) (n := 17) (F := []) (H := []) Try.func40 rfl rfl rfl rfl (HOk.start _) ?_
  refine Run.seq ?_
  refine Run.quiet (by intro h; cases h) ?_
  refine QOps.st rfl rfl (Yv.assign rfl).yl ?_
  refine QOps.st rfl rfl (Yv.assign rfl).yl ?_
  refine QOps.nil ?_
  refine Run.seq ?_
  refine Run.seq ?_
  refine Run.quiet (by intro h; cases h) ?_
  refine QOps.st rfl rfl (Yv.move rfl).yl ?_
  refine QOps.st rfl rfl (Yv.move rfl).yl ?_
  refine QOps.st rfl rfl (Yv.move rfl).yl ?_
  refine QOps.st rfl rfl (Yl.call callable69 (.cons rfl (.cons rfl (.cons rfl (.nil)))) (fun w' hw' => l17Asked_spec ((Rd.arg hs) w' hw') ((Rd.arg hs2) w' hw') ((Rd.arg hs3) w' hw'))) ?_
  refine QOps.st rfl rfl (Yv.not rfl).yl ?_
  refine QOps.nil ?_
  refine Run.cond rfl (fun hc1 => ?_) (fun hc1 => ?_)
  · try replace hc1 := of_decide_eq_true hc1
    have hno : ¬ planOk ts js who = true := by simpa using hc1
    refine Run.seq ?_
    refine Run.quiet (by intro h; cases h) ?_
    refine QOps.st rfl rfl (Yv.assign rfl).yl ?_
    refine QOps.st rfl rfl (Yv.assign rfl).yl ?_
    refine QOps.nil ?_
    refine Run.ret ?_
    refine retQ.of (.inr rfl) rfl (.tmp rfl (.tmp rfl .nil)) (fun w' hw' => ?_)
    refine ⟨?_, hw'.bel.below⟩
    unfold waitsOf; rw [if_neg hno]; rfl
  · try replace hc1 := of_decide_eq_false hc1
    have hyes : planOk ts js who = true := by simpa using hc1
    have hP := plan_is hyes
    have hT := hP.tugs
    have hJ := hP.jobs
    have hwl := hP.len
    have hW := hP.each
    refine Run.skip ?_
    refine Run.seq ?_
    refine Run.quiet (by intro h; cases h) ?_
    refine QOps.st rfl rfl (Yv.move rfl).yl ?_
    refine QOps.st rfl rfl (Yv.move rfl).yl ?_
    refine QOps.st rfl rfl (Yv.move rfl).yl ?_
    refine QOps.st rfl rfl (Yl.call callable81 (.cons rfl (.cons rfl (.cons rfl (.nil)))) (fun w' hw' => l17Waiting_spec ((Rd.arg hs) w' hw') ((Rd.arg hs2) w' hw') ((Rd.arg hs3) w' hw') hT hJ (by omega) hW)) ?_
    refine QOps.st rfl rfl (Yv.assign rfl).yl ?_
    refine QOps.st rfl rfl (Yv.assign rfl).yl ?_
    refine QOps.nil ?_
    refine Run.ret ?_
    refine retQ.of (.inr rfl) rfl (.tmp rfl (.tmp rfl .nil)) (fun w' hw' => ?_)
    refine ⟨?_, hw'.bel.below⟩
    unfold waitsOf; rw [if_pos hyes, hwl]; rfl
theorem sJobEnds_spec {w : World} {A : Option Addr} {c : Nat} {ts : List Tug} {A2 : Option Addr} {c2 : Nat} {js : List Job} {A3 : Option Addr} {c3 : Nat} {who : List Int} (hs : Sl w 3 A ts.length c (ts.flatMap Tug.enc)) (hs2 : Sl w 5 A2 js.length c2 (js.flatMap Job.enc)) (hs3 : Sl w 1 A3 who.length c3 (who.flatMap intC)) : Calls Try.prog 45 #[.slice A ts.length c, .slice A2 js.length c2, .slice A3 who.length c3] w (RetRow w 3 1 (endsOf ts js who).1.length ((endsOf ts js who).1.flatMap intC) (fun v => .tuple #[v, .bool (endsOf ts js who).2])) := by
  refine calls_of_run (vs := [_, _, _]) (L := [(0, _), (1, _), (2, _)]) (n := 24) (F := []) (H := []) Try.func45 rfl rfl rfl rfl (HOk.start _) ?_
  refine Run.seq ?_
  refine Run.quiet (by intro h; cases h) ?_
  refine QOps.st rfl rfl (Yv.assign rfl).yl ?_
  refine QOps.st rfl rfl (Yv.assign rfl).yl ?_
  refine QOps.nil ?_
  refine Run.seq ?_
  refine Run.seq ?_
  refine Run.quiet (by intro h; cases h) ?_
  refine QOps.st rfl rfl (Yv.move rfl).yl ?_
  refine QOps.st rfl rfl (Yv.move rfl).yl ?_
  refine QOps.st rfl rfl (Yv.move rfl).yl ?_
  refine QOps.st rfl rfl (Yl.call callable69 (.cons rfl (.cons rfl (.cons rfl (.nil)))) (fun w' hw' => l17Asked_spec ((Rd.arg hs) w' hw') ((Rd.arg hs2) w' hw') ((Rd.arg hs3) w' hw'))) ?_
  refine QOps.st rfl rfl (Yv.not rfl).yl ?_
  refine QOps.nil ?_
  refine Run.cond rfl (fun hc1 => ?_) (fun hc1 => ?_)
  · try replace hc1 := of_decide_eq_true hc1
    have hno : ¬ planOk ts js who = true := by simpa using hc1
    have hz : endsOf ts js who = ([], false) := by unfold endsOf; rw [if_neg hno]
    refine Run.seq ?_
    refine Run.ops ?_
    refine SOps.one rfl (One.buildSliceG (pv := []) (cs := []) (fun _ => []) rfl el43 .nil rfl rfl (by kernel_rfl) rfl rfl (fun b1 => ?_))
    refine SOps.st rfl rfl (Yv.assign rfl).yl ?_
    refine SOps.st rfl rfl (Yv.assign rfl).yl ?_
    refine SOps.nil ?_
    refine Run.ret ?_
    refine retQ.of (.inr rfl) rfl (.tmp rfl (.tmp rfl .nil)) (fun w' hw' => ?_)
    rw [hz]; exact ⟨_, _, rfl, hw'.bel.below, hw'.ent _ (List.mem_of_getElem? (i := 0) rfl), fun g hg => (hw'.own _ (List.mem_of_getElem? (i := 0) rfl) g hg).elim id (by simp)⟩
  · try replace hc1 := of_decide_eq_false hc1
    have hyes : planOk ts js who = true := by simpa using hc1
    have hP := plan_is hyes
    have hT := hP.tugs
    have hJ := hP.jobs
    have hwl := hP.len
    have hW := hP.each
    have hz : endsOf ts js who = ((dayTo ts js who who.length).ends, true) := by unfold endsOf; rw [if_pos hyes, hwl]
    refine Run.skip ?_
    refine Run.seq ?_
    refine Run.ops ?_
    refine SOps.st rfl rfl (Yv.move rfl).yl ?_
    refine SOps.st rfl rfl (Yv.move rfl).yl ?_
    refine SOps.st rfl rfl (Yv.move rfl).yl ?_
    refine SOps.one rfl (One.callRow2 rfl callable86 (.cons rfl (.cons rfl (.cons rfl (.nil)))) (fun w' hw' => l17Run_spec ((Rd.arg hs) w' hw') ((Rd.arg hs2) w' hw') ((Rd.arg hs3) w' hw') hT hJ (by omega) hW) (fun A1 c1 A2 c2 => ?_))
    refine SOps.st rfl rfl (Yv.move rfl).yl ?_
    refine SOps.st rfl rfl (Yv.extract rfl rfl).yl ?_
    refine SOps.st rfl rfl (Yv.extract rfl rfl).yl ?_
    refine SOps.st rfl rfl (Yv.assign rfl).yl ?_
    refine SOps.st rfl rfl (Yv.assign rfl).yl ?_
    refine SOps.nil ?_
    refine Run.seq ?_
    refine Run.quiet (by intro h; cases h) ?_
    refine QOps.st rfl rfl (Yv.move rfl).yl ?_
    refine QOps.st rfl rfl (Yv.assign rfl).yl ?_
    refine QOps.st rfl rfl (Yv.assign rfl).yl ?_
    refine QOps.nil ?_
    refine Run.ret ?_
    refine retQ.of (.inr rfl) rfl (.tmp rfl (.tmp rfl .nil)) (fun w' hw' => ?_)
    rw [hz]; exact ⟨_, _, rfl, hw'.bel.below, hw'.ent _ (List.mem_of_getElem? (i := 1) rfl), fun g hg => (hw'.own _ (List.mem_of_getElem? (i := 1) rfl) g hg).elim id (by simp)⟩
theorem sLastEnd_spec {w : World} {A : Option Addr} {c : Nat} {ts : List Tug} {A2 : Option Addr} {c2 : Nat} {js : List Job} {A3 : Option Addr} {c3 : Nat} {who : List Int} (hs : Sl w 3 A ts.length c (ts.flatMap Tug.enc)) (hs2 : Sl w 5 A2 js.length c2 (js.flatMap Job.enc)) (hs3 : Sl w 1 A3 who.length c3 (who.flatMap intC)) : Calls Try.prog 46 #[.slice A ts.length c, .slice A2 js.length c2, .slice A3 who.length c3] w (RetB w (.tuple #[.int .i64 (lastOf ts js who).1, .bool (lastOf ts js who).2])) := by
  have hel := ends_len (ts := ts) (js := js) (who := who) who.length
  refine calls_of_run (vs := [_, _, _]) (L := [(0, _), (1, _), (2, _)]) (n := 37) (F := []) (H := []) Try.func46 rfl rfl rfl rfl (HOk.start _) ?_
  refine Run.seq ?_
  refine Run.quiet (by intro h; cases h) ?_
  refine QOps.st rfl rfl (Yv.assign rfl).yl ?_
  refine QOps.st rfl rfl (Yv.assign rfl).yl ?_
  refine QOps.nil ?_
  refine Run.seq ?_
  refine Run.seq ?_
  refine Run.quiet (by intro h; cases h) ?_
  refine QOps.st rfl rfl (Yv.move rfl).yl ?_
  refine QOps.st rfl rfl (Yv.move rfl).yl ?_
  refine QOps.st rfl rfl (Yv.move rfl).yl ?_
  refine QOps.st rfl rfl (Yl.call callable69 (.cons rfl (.cons rfl (.cons rfl (.nil)))) (fun w' hw' => l17Asked_spec ((Rd.arg hs) w' hw') ((Rd.arg hs2) w' hw') ((Rd.arg hs3) w' hw'))) ?_
  refine QOps.st rfl rfl (Yv.not rfl).yl ?_
  refine QOps.nil ?_
  refine Run.cond rfl (fun hc1 => ?_) (fun hc1 => ?_)
  · try replace hc1 := of_decide_eq_true hc1
    have hno : ¬ planOk ts js who = true := by simpa using hc1
    refine Run.seq ?_
    refine Run.quiet (by intro h; cases h) ?_
    refine QOps.st rfl rfl (Yv.assign rfl).yl ?_
    refine QOps.st rfl rfl (Yv.assign rfl).yl ?_
    refine QOps.nil ?_
    refine Run.ret ?_
    refine retQ.of (.inr rfl) rfl (.tmp rfl (.tmp rfl .nil)) (fun w' hw' => ?_)
    refine ⟨?_, hw'.bel.below⟩
    unfold lastOf; rw [if_neg hno]; rfl
  · try replace hc1 := of_decide_eq_false hc1
    have hyes : planOk ts js who = true := by simpa using hc1
    have hP := plan_is hyes
    have hT := hP.tugs
    have hJ := hP.jobs
    have hwl := hP.len
    have hW := hP.each
    have hjl := hJ.len
    refine Run.skip ?_
    refine Run.seq ?_
    refine Run.ops ?_
    refine SOps.st rfl rfl (Yv.move rfl).yl ?_
    refine SOps.st rfl rfl (Yv.move rfl).yl ?_
    refine SOps.st rfl rfl (Yv.move rfl).yl ?_
    refine SOps.one rfl (One.callRow2 rfl callable86 (.cons rfl (.cons rfl (.cons rfl (.nil)))) (fun w' hw' => l17Run_spec ((Rd.arg hs) w' hw') ((Rd.arg hs2) w' hw') ((Rd.arg hs3) w' hw') hT hJ (by omega) hW) (fun A11 c11 A12 c12 => ?_))
    refine SOps.st rfl rfl (Yv.move rfl).yl ?_
    refine SOps.st rfl rfl (Yv.extract rfl rfl).yl ?_
    refine SOps.st rfl rfl (Yv.extract rfl rfl).yl ?_
    refine SOps.st rfl rfl (Yv.assign rfl).yl ?_
    refine SOps.st rfl rfl (Yv.assign rfl).yl ?_
    refine SOps.nil ?_
    refine Run.seq ?_
    refine Run.quiet (by intro h; cases h) ?_
    refine QOps.st rfl rfl (Yv.assign rfl).yl ?_
    refine QOps.nil ?_
    refine Run.seq ?_
    refine Run.seq ?_
    refine Run.quiet (by intro h; cases h) ?_
    refine QOps.st rfl rfl (Yv.assign rfl).yl ?_
    refine QOps.nil ?_
    refine Run.block ?_
    refine Run.loop (S := Nat) (fun s => match s with | k => k ≤ who.length) (fun s => match s with | k => [(9, .slice A12 ((dayTo ts js who who.length).ends.length) c12), (10, .int .i64 (maxTo (dayTo ts js who who.length).ends k)), (11, .int .i64 (k : Int))]) (fun s => match s with | k => [.row A12 c12 3 1 (dayTo ts js who who.length).ends.length ((dayTo ts js who who.length).ends.flatMap intC)]) (fun s => match s with | k => who.length - k) 0 ?_ (SubE.cons rfl (SubE.cons rfl (SubE.cons rfl (SubE.nil _)))) (List.Sublist.cons _ (List.Sublist.refl _)) ?_
    · exact Nat.zero_le _
    · rintro k hk
      show Run _ _ _ _ _ [(9, .slice A12 ((dayTo ts js who who.length).ends.length) c12), (10, .int .i64 (maxTo (dayTo ts js who who.length).ends k)), (11, .int .i64 (k : Int))] [.row A12 c12 3 1 (dayTo ts js who who.length).ends.length ((dayTo ts js who who.length).ends.flatMap intC)] _
      refine Run.seq ?_
      refine Run.seq ?_
      refine Run.quiet (by intro h; cases h) ?_
      refine QOps.st rfl rfl (Yv.move rfl).yl ?_
      refine QOps.st rfl rfl (Yv.move rfl).yl ?_
      refine QOps.st rfl rfl (Yv.lenS el43s rfl).yl ?_
      refine QOps.st rfl rfl (Yv.lss rfl rfl).yl ?_
      refine QOps.nil ?_
      refine Run.cond rfl (fun hc2 => ?_) (fun hc2 => ?_)
      · try replace hc2 := of_decide_eq_true hc2
        refine Run.skip ?_
        refine Run.seq ?_
        refine Run.block ?_
        refine Run.quiet (by intro h; cases h) ?_
        refine QOps.st rfl rfl (Yv.move rfl).yl ?_
        refine QOps.st rfl rfl (Yv.move rfl).yl ?_
        refine QOps.st rfl rfl (Yv.move rfl).yl ?_
        refine QOps.st rfl rfl (Yv.indexAddr k el43 rfl rfl rfl (Rd.row (i := 0) rfl) (by omega)).yl ?_
        refine QOps.st rfl rfl (Yv.loadE lay3 rfl intC_len (Rd.row (i := 0) rfl) (by first | omega | (simp; omega)) rfl).yl ?_
        refine QOps.st rfl rfl (Yl.call callable87 (.cons rfl (.cons rfl (.nil))) (fun w' hw' => l1Most_spec)) ?_
        refine QOps.st rfl rfl (Yv.assign rfl).yl ?_
        refine QOps.nil ?_
        refine Run.quiet (by intro h; cases h) ?_
        refine QOps.st rfl rfl (Yv.move rfl).yl ?_
        refine QOps.st rfl rfl (Yv.succN rfl rfl (by omega)).yl ?_
        refine QOps.st rfl rfl (Yv.assign rfl).yl ?_
        refine QOps.nil ?_
        refine ⟨k + 1, ?_, ?_, (SubE.cons rfl (SubE.cons rfl (SubE.cons rfl (SubE.nil _)))), (List.Sublist.refl _)⟩
        · show k + 1 ≤ _; omega
        · first | omega | (dsimp only; omega)
      · try replace hc2 := of_decide_eq_false hc2
        obtain rfl : k = who.length := by omega
        refine Run.exit ?_
        refine Run.seq ?_
        refine Run.quiet (by intro h; cases h) ?_
        refine QOps.st rfl rfl (Yv.move rfl).yl ?_
        refine QOps.st rfl rfl (Yv.assign rfl).yl ?_
        refine QOps.st rfl rfl (Yv.assign rfl).yl ?_
        refine QOps.nil ?_
        refine Run.ret ?_
        refine retQ.of (.inr rfl) rfl (.tmp rfl (.tmp rfl .nil)) (fun w' hw' => ?_)
        refine ⟨?_, hw'.bel.below⟩
        unfold lastOf; rw [if_pos hyes, hwl]; rfl
theorem sTowedKilometers_spec {w : World} {id : Int} {A : Option Addr} {c : Nat} {ts : List Tug} {A2 : Option Addr} {c2 : Nat} {js : List Job} {A3 : Option Addr} {c3 : Nat} {who : List Int} (hs : Sl w 3 A ts.length c (ts.flatMap Tug.enc)) (hs2 : Sl w 5 A2 js.length c2 (js.flatMap Job.enc)) (hs3 : Sl w 1 A3 who.length c3 (who.flatMap intC)) : Calls Try.prog 23 #[.slice A ts.length c, .slice A2 js.length c2, .slice A3 who.length c3, .int .i64 id] w (RetB w (.tuple #[.int .i64 (towKm ts js who id).1, .int .i64 (towKm ts js who id).2.1, .bool (towKm ts js who id).2.2])) := by
  have hfl := findI_lt (ts := ts) (id := id)
  refine calls_of_run (vs := [_, _, _, _]) (L := [(0, _), (1, _), (2, _), (3, _)]) (n := 74) (F := []) (H := []) Try.func23 rfl rfl rfl rfl (HOk.start _) ?_
  refine Run.seq ?_
  refine Run.quiet (by intro h; cases h) ?_
  refine QOps.st rfl rfl (Yv.assign rfl).yl ?_
  refine QOps.st rfl rfl (Yv.assign rfl).yl ?_
  refine QOps.st rfl rfl (Yv.assign rfl).yl ?_
  refine QOps.nil ?_
  refine Run.seq ?_
  refine Run.quiet (by intro h; cases h) ?_
  refine QOps.st rfl rfl (Yv.move rfl).yl ?_
  refine QOps.st rfl rfl (Yv.move rfl).yl ?_
  refine QOps.st rfl rfl (Yl.call callable68 (.cons rfl (.cons rfl (.nil))) (fun w' hw' => l17Find_spec ((Rd.arg hs) w' hw'))) ?_
  refine QOps.st rfl rfl (Yv.assign rfl).yl ?_
  refine QOps.nil ?_
  refine Run.seq ?_
  refine Run.seq ?_
  refine Run.quiet (by intro h; cases h) ?_
  refine QOps.st rfl rfl (Yv.move rfl).yl ?_
  refine QOps.st rfl rfl (Yv.move rfl).yl ?_
  refine QOps.st rfl rfl (Yv.move rfl).yl ?_
  refine QOps.st rfl rfl (Yl.call callable69 (.cons rfl (.cons rfl (.cons rfl (.nil)))) (fun w' hw' => l17Asked_spec ((Rd.arg hs) w' hw') ((Rd.arg hs2) w' hw') ((Rd.arg hs3) w' hw'))) ?_
  refine QOps.st rfl rfl (Yv.not rfl).yl ?_
  refine QOps.st rfl rfl (Yv.move rfl).yl ?_
  refine' QOps.or [_, _] _ (.tmp 26) rfl rfl rfl rfl rfl rfl (fun hg1 => ?_) ?_
  rotate_left
  · try replace hg1 := of_decide_eq_false hg1
    refine QOps.st rfl rfl (Yv.move rfl).yl ?_
    refine QOps.st rfl rfl (Yv.lss rfl rfl).yl ?_
    exact QOps.nil rfl
  refine QOps.nil ?_
  refine Run.cond rfl (fun hc1 => ?_) (fun hc1 => ?_)
  · try replace hc1 := of_decide_eq_true hc1
    have hno := km_or.1 hc1
    refine Run.seq ?_
    refine Run.quiet (by intro h; cases h) ?_
    refine QOps.st rfl rfl (Yv.assign rfl).yl ?_
    refine QOps.st rfl rfl (Yv.assign rfl).yl ?_
    refine QOps.st rfl rfl (Yv.assign rfl).yl ?_
    refine QOps.nil ?_
    refine Run.ret ?_
    refine retQ.of (.inr rfl) rfl (.tmp rfl (.tmp rfl (.tmp rfl .nil))) (fun w' hw' => ?_)
    refine ⟨?_, hw'.bel.below⟩
    unfold towKm; rw [if_neg hno]; rfl
  · try replace hc1 := of_decide_eq_false hc1
    have hyes := km_and.1 hc1
    have hP := plan_is hyes.1
    have hT := hP.tugs
    have hJ := hP.jobs
    have hwl := hP.len
    have hjl := hJ.len
    obtain ⟨kf, hf1, hf2, hf3, hf4⟩ := findI_nonneg hyes.2
    have hp0 : (nth ts (findI ts id).toNat).place = (dayTo ts js who 0).pl id := by
          show _ = placesTo ts ts.length id
          rw [hf2, ← hf4, Int.toNat_natCast, placesTo_at hT (Nat.le_refl _) hf3]
    refine Run.skip ?_
    refine Run.seq ?_
    refine Run.quiet (fun _ => ⟨by kernel_rfl, by kernel_rfl⟩) ?_
    refine QOps.st rfl rfl (Yv.move rfl).yl ?_
    refine QOps.st rfl rfl (Yv.move rfl).yl ?_
    refine QOps.st rfl rfl (Yv.indexAddr (findI ts id).toNat el41 rfl rfl (by omega) (Rd.arg hs) (by omega)).yl ?_
    refine QOps.st rfl rfl (Yv.fieldAddr fld49_1 rfl).yl ?_
    refine QOps.st rfl rfl (Yv.loadF lay3 rfl Tug.len (Rd.arg hs) (by omega) (by decide) rfl).yl ?_
    refine QOps.st rfl rfl (Yv.assign rfl).yl ?_
    refine QOps.st rfl rfl (Yv.assign rfl).yl ?_
    refine QOps.st rfl rfl (Yv.assign rfl).yl ?_
    refine QOps.nil ?_
    refine Run.seq ?_
    refine Run.seq ?_
    refine Run.quiet (by intro h; cases h) ?_
    refine QOps.st rfl rfl (Yv.assign rfl).yl ?_
    refine QOps.nil ?_
    refine Run.block ?_
    refine Run.loop (S := Nat) (fun s => match s with | i => i ≤ js.length) (fun s => match s with | i => [(1, .slice A2 js.length c2), (2, .slice A3 who.length c3), (3, .int .i64 id), (12, .int .i64 ((dayTo ts js who i).towed id)), (13, .int .i64 ((dayTo ts js who i).others id)), (14, .int .i64 ((dayTo ts js who i).pl id)), (15, .int .i64 (i : Int))]) (fun s => match s with | i => []) (fun s => match s with | i => js.length - i) 0 ?_ (SubE.cons rfl (SubE.cons rfl (SubE.cons rfl (SubE.cons rfl (SubE.cons rfl (SubE.cons (congrArg (fun z => some (Value.int .i64 z)) hp0) (SubE.cons rfl (SubE.nil _)))))))) (List.Sublist.refl _) ?_
    · exact Nat.zero_le _
    · rintro i hi
      show Run _ _ _ _ _ [(1, .slice A2 js.length c2), (2, .slice A3 who.length c3), (3, .int .i64 id), (12, .int .i64 ((dayTo ts js who i).towed id)), (13, .int .i64 ((dayTo ts js who i).others id)), (14, .int .i64 ((dayTo ts js who i).pl id)), (15, .int .i64 (i : Int))] [] _
      refine Run.seq ?_
      refine Run.seq ?_
      refine Run.quiet (by intro h; cases h) ?_
      refine QOps.st rfl rfl (Yv.move rfl).yl ?_
      refine QOps.st rfl rfl (Yv.move rfl).yl ?_
      refine QOps.st rfl rfl (Yv.lenS el42s rfl).yl ?_
      refine QOps.st rfl rfl (Yv.lss rfl rfl).yl ?_
      refine QOps.nil ?_
      refine Run.cond rfl (fun hc2 => ?_) (fun hc2 => ?_)
      · try replace hc2 := of_decide_eq_true hc2
        have hin := day_in (who := who) hT hJ hi
        have htw := hin.towed id
        have hot := hin.others id
        have hpl := hin.pl id
        have hji := hJ.each i (by omega)
        have hnc : 0 ≤ nearAbs (nth js i).src (nth js i).dst := nearAbs_nonneg
        have hnd : nearAbs (nth js i).src (nth js i).dst ≤ 600 := nearAbs_in hji.1 hji.2.1
        have hna : 0 ≤ nearAbs ((dayTo ts js who i).pl id) (nth js i).src := nearAbs_nonneg
        have hnb : nearAbs ((dayTo ts js who i).pl id) (nth js i).src ≤ 600 := nearAbs_in hpl hji.1
        refine Run.skip ?_
        refine Run.seq ?_
        refine Run.block ?_
        refine Run.seq ?_
        refine Run.quiet (by intro h; cases h) ?_
        refine QOps.st rfl rfl (Yv.move rfl).yl ?_
        refine QOps.st rfl rfl (Yv.move rfl).yl ?_
        refine QOps.st rfl rfl (Yv.indexAddr i el43 rfl rfl rfl (Rd.arg hs3) (by omega)).yl ?_
        refine QOps.st rfl rfl (Yv.loadE lay3 rfl intC_len (Rd.arg hs3) (by first | omega | (simp; omega)) rfl).yl ?_
        refine QOps.st rfl rfl (Yv.move rfl).yl ?_
        refine QOps.st rfl rfl (Yv.eqI rfl rfl).yl ?_
        refine QOps.nil ?_
        refine Run.cond rfl (fun hc3 => ?_) (fun hc3 => ?_)
        · try replace hc3 := of_decide_eq_true hc3
          obtain ⟨d1, d2, d3⟩ := day_hit (ts := ts) (js := js) hc3
          refine Run.seq ?_
          refine Run.quiet (by intro h; cases h) ?_
          refine QOps.st rfl rfl (Yv.move rfl).yl ?_
          refine QOps.st rfl rfl (Yv.move rfl).yl ?_
          refine QOps.st rfl rfl (Yv.move rfl).yl ?_
          refine QOps.st rfl rfl (Yv.move rfl).yl ?_
          refine QOps.st rfl rfl (Yv.indexAddr i el42 rfl rfl rfl (Rd.arg hs2) (by omega)).yl ?_
          refine QOps.st rfl rfl (Yv.fieldAddr fld51_1 rfl).yl ?_
          refine QOps.st rfl rfl (Yv.loadF lay3 rfl Job.len (Rd.arg hs2) (by first | omega | (simp; omega)) (by decide) rfl).yl ?_
          refine QOps.st rfl rfl (Yl.call callable70 (.cons rfl (.cons rfl (.nil))) (fun w' hw' => l17Far_spec (by omega) (by omega))) ?_
          refine QOps.st rfl rfl (Yv.add rfl rfl (by omega)).yl ?_
          refine QOps.st rfl rfl (Yv.assign rfl).yl ?_
          refine QOps.nil ?_
          refine Run.seq ?_
          refine Run.quiet (fun _ => ⟨by kernel_rfl, by kernel_rfl⟩) ?_
          refine QOps.st rfl rfl (Yv.move rfl).yl ?_
          refine QOps.st rfl rfl (Yv.move rfl).yl ?_
          refine QOps.st rfl rfl (Yv.move rfl).yl ?_
          refine QOps.st rfl rfl (Yv.indexAddr i el42 rfl rfl rfl (Rd.arg hs2) (by omega)).yl ?_
          refine QOps.st rfl rfl (Yv.fieldAddr fld51_1 rfl).yl ?_
          refine QOps.st rfl rfl (Yv.loadF lay3 rfl Job.len (Rd.arg hs2) (by first | omega | (simp; omega)) (by decide) rfl).yl ?_
          refine QOps.st rfl rfl (Yv.move rfl).yl ?_
          refine QOps.st rfl rfl (Yv.move rfl).yl ?_
          refine QOps.st rfl rfl (Yv.indexAddr i el42 rfl rfl rfl (Rd.arg hs2) (by omega)).yl ?_
          refine QOps.st rfl rfl (Yv.fieldAddr fld51_2 rfl).yl ?_
          refine QOps.st rfl rfl (Yv.loadF lay3 rfl Job.len (Rd.arg hs2) (by first | omega | (simp; omega)) (by decide) rfl).yl ?_
          refine QOps.st rfl rfl (Yl.call callable70 (.cons rfl (.cons rfl (.nil))) (fun w' hw' => l17Far_spec (by omega) (by omega))) ?_
          refine QOps.st rfl rfl (Yv.add rfl rfl (by omega)).yl ?_
          refine QOps.st rfl rfl (Yv.assign rfl).yl ?_
          refine QOps.nil ?_
          refine Run.quiet (by intro h; cases h) ?_
          refine QOps.st rfl rfl (Yv.move rfl).yl ?_
          refine QOps.st rfl rfl (Yv.move rfl).yl ?_
          refine QOps.st rfl rfl (Yv.indexAddr i el42 rfl rfl rfl (Rd.arg hs2) (by omega)).yl ?_
          refine QOps.st rfl rfl (Yv.fieldAddr fld51_2 rfl).yl ?_
          refine QOps.st rfl rfl (Yv.loadF lay3 rfl Job.len (Rd.arg hs2) (by first | omega | (simp; omega)) (by decide) rfl).yl ?_
          refine QOps.st rfl rfl (Yv.assign rfl).yl ?_
          refine QOps.nil ?_
          refine Run.quiet (by intro h; cases h) ?_
          refine QOps.st rfl rfl (Yv.move rfl).yl ?_
          refine QOps.st rfl rfl (Yv.succN rfl rfl (by omega)).yl ?_
          refine QOps.st rfl rfl (Yv.assign rfl).yl ?_
          refine QOps.nil ?_
          refine ⟨i + 1, ?_, ?_, (SubE.cons rfl (SubE.cons rfl (SubE.cons rfl (SubE.cons (congrArg (fun z => some (Value.int .i64 z)) d1) (SubE.cons (congrArg (fun z => some (Value.int .i64 z)) d2) (SubE.cons (congrArg (fun z => some (Value.int .i64 z)) d3) (SubE.cons rfl (SubE.nil _)))))))), (List.Sublist.refl _)⟩
          · show i + 1 ≤ _; omega
          · first | omega | (dsimp only; omega)
        · try replace hc3 := of_decide_eq_false hc3
          obtain ⟨d1, d2, d3⟩ := day_miss (ts := ts) (js := js) hc3
          refine Run.skip ?_
          refine Run.quiet (by intro h; cases h) ?_
          refine QOps.st rfl rfl (Yv.move rfl).yl ?_
          refine QOps.st rfl rfl (Yv.succN rfl rfl (by omega)).yl ?_
          refine QOps.st rfl rfl (Yv.assign rfl).yl ?_
          refine QOps.nil ?_
          refine ⟨i + 1, ?_, ?_, (SubE.cons rfl (SubE.cons rfl (SubE.cons rfl (SubE.cons (congrArg (fun z => some (Value.int .i64 z)) d1) (SubE.cons (congrArg (fun z => some (Value.int .i64 z)) d2) (SubE.cons (congrArg (fun z => some (Value.int .i64 z)) d3) (SubE.cons rfl (SubE.nil _)))))))), (List.Sublist.refl _)⟩
          · show i + 1 ≤ _; omega
          · first | omega | (dsimp only; omega)
      · try replace hc2 := of_decide_eq_false hc2
        obtain rfl : i = js.length := by omega
        refine Run.exit ?_
        refine Run.seq ?_
        refine Run.quiet (by intro h; cases h) ?_
        refine QOps.st rfl rfl (Yv.move rfl).yl ?_
        refine QOps.st rfl rfl (Yv.move rfl).yl ?_
        refine QOps.st rfl rfl (Yv.assign rfl).yl ?_
        refine QOps.st rfl rfl (Yv.assign rfl).yl ?_
        refine QOps.st rfl rfl (Yv.assign rfl).yl ?_
        refine QOps.nil ?_
        refine Run.ret ?_
        refine retQ.of (.inr rfl) rfl (.tmp rfl (.tmp rfl (.tmp rfl .nil))) (fun w' hw' => ?_)
        refine ⟨?_, hw'.bel.below⟩
        unfold towKm; rw [if_pos hyes]; rfl
/-! Single tugs -/
def leastOf (ts : List Tug) (j : Job) : Option Nat → Int
  | none => -1
  | some b => nearAbs (nth ts b).place j.src
theorem least_cond {ts : List Tug} {j : Job} {k : Nat} {o : Option Nat} (ho : o = nearTo ts j k) : (decide (leastOf ts j o < 0) || decide (nearAbs (nth ts k).place j.src < leastOf ts j o)) = closer ts j k (nearTo ts j k) := by
  subst ho
  cases h : nearTo ts j k with
  | none => rfl
  | some b =>
    have h1 : 0 ≤ nearAbs (nth ts b).place j.src := nearAbs_nonneg
    show (decide (nearAbs (nth ts b).place j.src < 0) || _) = _
    rw [decide_eq_false (by omega)]
    rfl
theorem near_out2 {ts : List Tug} {j : Job} (hy : (tugsOk ts && jobOk j) = true) : nearOf ts j = ((bestT ts (nearTo ts j ts.length)).id, decide (0 ≤ leastOf ts j (nearTo ts j ts.length))) := by
  unfold nearOf
  rw [if_pos hy]
  cases h : nearTo ts j ts.length with
  | none => rfl
  | some b =>
    have h1 : 0 ≤ nearAbs (nth ts b).place j.src := nearAbs_nonneg
    show ((nth ts b).id, true) = ((nth ts b).id, decide (0 ≤ nearAbs (nth ts b).place j.src))
    rw [decide_eq_true h1]
theorem sNearestTug_spec {w : World} {A : Option Addr} {c : Nat} {ts : List Tug} {j : Job} (hs : Sl w 3 A ts.length c (ts.flatMap Tug.enc)) : Calls Try.prog 26 #[.slice A ts.length c, .agg j.enc.toArray] w (RetB w (.tuple #[.int .i64 (nearOf ts j).1, .bool (nearOf ts j).2])) := by
  refine calls_of_run (vs := [_, _]) (L := [(0, _), (1, _)]) (n := 58) (F := []) (H := []) Try.func26 rfl rfl rfl rfl (HOk.start _) ?_
  refine Run.seq ?_
  refine Run.ops ?_
  refine SOps.one rfl (One.box (cs := [_, _, _, _, _]) rfl rfl rfl (fun b1 => ?_))
  refine SOps.st rfl rfl (Yv.assign rfl).yl ?_
  refine SOps.st rfl rfl (Yv.assign rfl).yl ?_
  refine SOps.nil ?_
  refine Run.seq ?_
  refine Run.seq ?_
  refine Run.quiet (by intro h; cases h) ?_
  refine QOps.st rfl rfl (Yv.move rfl).yl ?_
  refine QOps.st rfl rfl (Yl.call callable74 (.cons rfl (.nil)) (fun w' hw' => l17Tugs_spec ((Rd.arg hs) w' hw'))) ?_
  refine QOps.st rfl rfl (Yv.not rfl).yl ?_
  refine QOps.st rfl rfl (Yv.move rfl).yl ?_
  refine' QOps.or [_, _, _] _ (.tmp 16) rfl rfl rfl rfl rfl rfl (fun hg1 => ?_) ?_
  rotate_left
  · try replace hg1 := of_decide_eq_false hg1
    refine QOps.st rfl rfl (Yv.loadBs (i := 0) lay51 rfl rfl rfl rfl).yl ?_
    refine QOps.st rfl rfl (Yl.call callable75 (.cons rfl (.nil)) (fun w' hw' => l17Job_spec)) ?_
    refine QOps.st rfl rfl (Yv.not rfl).yl ?_
    exact QOps.nil rfl
  refine QOps.nil ?_
  refine Run.cond rfl (fun hc1 => ?_) (fun hc1 => ?_)
  · try replace hc1 := of_decide_eq_true hc1
    have hno := both_no hc1
    refine Run.seq ?_
    refine Run.quiet (by intro h; cases h) ?_
    refine QOps.st rfl rfl (Yv.assign rfl).yl ?_
    refine QOps.st rfl rfl (Yv.assign rfl).yl ?_
    refine QOps.nil ?_
    refine Run.ret ?_
    refine retQ.of (.inr rfl) rfl (.tmp rfl (.tmp rfl .nil)) (fun w' hw' => ?_)
    refine ⟨?_, hw'.bel.below⟩
    unfold nearOf; rw [if_neg hno]; rfl
  · try replace hc1 := of_decide_eq_false hc1
    have hyes := both_yes hc1
    have hy2 := hyes
    rw [Bool.and_eq_true] at hy2
    have hT := tugs_is hy2.1
    have htl := hT.len
    have hjs : (0 ≤ j.src ∧ j.src ≤ 600) := by have h9 := hy2.2; simp only [jobOk, Bool.and_eq_true, inB_iff] at h9; exact h9.1.1.1.2
    refine Run.skip ?_
    refine Run.seq ?_
    refine Run.quiet (by intro h; cases h) ?_
    refine QOps.st rfl rfl (Yv.assign rfl).yl ?_
    refine QOps.st rfl rfl (Yv.assign rfl).yl ?_
    refine QOps.nil ?_
    refine Run.seq ?_
    refine Run.seq ?_
    refine Run.quiet (by intro h; cases h) ?_
    refine QOps.st rfl rfl (Yv.assign rfl).yl ?_
    refine QOps.nil ?_
    refine Run.block ?_
    refine Run.loop (S := Nat × Option Nat) (fun s => match s with | (k, o) => k ≤ ts.length ∧ o = nearTo ts j k) (fun s => match s with | (k, o) => [(0, .slice A ts.length c), (3, .pointer (some ⟨b1, 0, none⟩)), (6, .int .i64 (bestT ts o).id), (7, .int .i64 (leastOf ts j o)), (8, .int .i64 (k : Int))]) (fun s => match s with | (k, o) => [.blk b1 51 (Job.enc j)]) (fun s => match s with | (k, o) => ts.length - k) (0, none) ?_ (SubE.cons rfl (SubE.cons rfl (SubE.cons rfl (SubE.cons rfl (SubE.cons rfl (SubE.nil _)))))) (List.Sublist.refl _) ?_
    · exact ⟨Nat.zero_le _, rfl⟩
    · rintro ⟨k, o⟩ ⟨hk, ho⟩
      show Run _ _ _ _ _ [(0, .slice A ts.length c), (3, .pointer (some ⟨b1, 0, none⟩)), (6, .int .i64 (bestT ts o).id), (7, .int .i64 (leastOf ts j o)), (8, .int .i64 (k : Int))] [.blk b1 51 (Job.enc j)] _
      refine Run.seq ?_
      refine Run.seq ?_
      refine Run.quiet (by intro h; cases h) ?_
      refine QOps.st rfl rfl (Yv.move rfl).yl ?_
      refine QOps.st rfl rfl (Yv.move rfl).yl ?_
      refine QOps.st rfl rfl (Yv.lenS el41s rfl).yl ?_
      refine QOps.st rfl rfl (Yv.lss rfl rfl).yl ?_
      refine QOps.nil ?_
      refine Run.cond rfl (fun hc2 => ?_) (fun hc2 => ?_)
      · try replace hc2 := of_decide_eq_true hc2
        have hke := hT.each k (by omega)
        refine Run.skip ?_
        refine Run.seq ?_
        refine Run.block ?_
        refine Run.seq ?_
        refine Run.quiet (fun _ => ⟨by kernel_rfl, by kernel_rfl⟩) ?_
        refine QOps.st rfl rfl (Yv.move rfl).yl ?_
        refine QOps.st rfl rfl (Yv.move rfl).yl ?_
        refine QOps.st rfl rfl (Yv.indexAddr k el41 rfl rfl rfl (Rd.arg hs) (by omega)).yl ?_
        refine QOps.st rfl rfl (Yv.fieldAddr fld49_1 rfl).yl ?_
        refine QOps.st rfl rfl (Yv.loadF lay3 rfl Tug.len (Rd.arg hs) (by first | omega | (simp; omega)) (by decide) rfl).yl ?_
        refine QOps.st rfl rfl (Yv.fieldAddr fld51_1 rfl).yl ?_
        refine QOps.st rfl rfl (Yv.loadB (i := 0) lay3 rfl rfl rfl rfl).yl ?_
        refine QOps.st rfl rfl (Yl.call callable70 (.cons rfl (.cons rfl (.nil))) (fun w' hw' => l17Far_spec (by omega) (by omega))) ?_
        refine QOps.st rfl rfl (Yv.assign rfl).yl ?_
        refine QOps.nil ?_
        refine Run.seq ?_
        refine Run.quiet (fun _ => ⟨by kernel_rfl, by kernel_rfl⟩) ?_
        refine QOps.st rfl rfl (Yv.move rfl).yl ?_
        refine QOps.st rfl rfl (Yv.move rfl).yl ?_
        refine QOps.st rfl rfl (Yv.indexAddr k el41 rfl rfl rfl (Rd.arg hs) (by omega)).yl ?_
        refine QOps.st rfl rfl (Yv.fieldAddr fld49_2 rfl).yl ?_
        refine QOps.st rfl rfl (Yv.loadF lay3 rfl Tug.len (Rd.arg hs) (by first | omega | (simp; omega)) (by decide) rfl).yl ?_
        refine QOps.st rfl rfl (Yv.fieldAddr fld51_3 rfl).yl ?_
        refine QOps.st rfl rfl (Yv.loadB (i := 0) lay3 rfl rfl rfl rfl).yl ?_
        refine QOps.st rfl rfl (Yv.geq rfl rfl).yl ?_
        refine QOps.st rfl rfl (Yv.move rfl).yl ?_
        refine' QOps.and [_, _, _, _, _, _, _] _ (.tmp 47) rfl rfl rfl rfl rfl rfl (fun hg2 => ?_) ?_
        rotate_left
        · try replace hg2 := of_decide_eq_true hg2
          refine QOps.st rfl rfl (Yv.move rfl).yl ?_
          refine QOps.st rfl rfl (Yv.lss rfl rfl).yl ?_
          refine QOps.st rfl rfl (Yv.move rfl).yl ?_
          refine' QOps.or [_, _, _] _ (.tmp 46) rfl rfl rfl rfl rfl rfl (fun hg3 => ?_) ?_
          rotate_left
          · try replace hg3 := of_decide_eq_false hg3
            refine QOps.st rfl rfl (Yv.move rfl).yl ?_
            refine QOps.st rfl rfl (Yv.move rfl).yl ?_
            refine QOps.st rfl rfl (Yv.lss rfl rfl).yl ?_
            exact QOps.nil rfl
          exact QOps.nil rfl
        refine QOps.nil ?_
        refine Run.cond rfl (fun hc3 => ?_) (fun hc3 => ?_)
        · try replace hc3 := of_decide_eq_true hc3
          have hst : nearTo ts j (k + 1) = some k := by rw [nearTo, if_pos (by rw [← least_cond ho]; exact hc3)]
          refine Run.seq ?_
          refine Run.quiet (by intro h; cases h) ?_
          refine QOps.st rfl rfl (Yv.move rfl).yl ?_
          refine QOps.st rfl rfl (Yv.move rfl).yl ?_
          refine QOps.st rfl rfl (Yv.indexAddr k el41 rfl rfl rfl (Rd.arg hs) (by omega)).yl ?_
          refine QOps.st rfl rfl (Yv.fieldAddr fld49_0 rfl).yl ?_
          refine QOps.st rfl rfl (Yv.loadF lay3 rfl Tug.len (Rd.arg hs) (by first | omega | (simp; omega)) (by decide) rfl).yl ?_
          refine QOps.st rfl rfl (Yv.assign rfl).yl ?_
          refine QOps.nil ?_
          refine Run.quiet (by intro h; cases h) ?_
          refine QOps.st rfl rfl (Yv.move rfl).yl ?_
          refine QOps.st rfl rfl (Yv.assign rfl).yl ?_
          refine QOps.nil ?_
          refine Run.quiet (by intro h; cases h) ?_
          refine QOps.st rfl rfl (Yv.move rfl).yl ?_
          refine QOps.st rfl rfl (Yv.succN rfl rfl (by omega)).yl ?_
          refine QOps.st rfl rfl (Yv.assign rfl).yl ?_
          refine QOps.nil ?_
          refine ⟨(k + 1, some k), ?_, ?_, (SubE.cons rfl (SubE.cons rfl (SubE.cons rfl (SubE.cons rfl (SubE.cons rfl (SubE.nil _)))))), (List.Sublist.refl _)⟩
          · exact ⟨by omega, hst.symm⟩
          · first | omega | (dsimp only; omega)
        · try replace hc3 := of_decide_eq_false hc3
          have hst : nearTo ts j (k + 1) = nearTo ts j k := by rw [nearTo, if_neg (by rw [← least_cond ho, hc3]; simp)]
          refine Run.skip ?_
          refine Run.quiet (by intro h; cases h) ?_
          refine QOps.st rfl rfl (Yv.move rfl).yl ?_
          refine QOps.st rfl rfl (Yv.succN rfl rfl (by omega)).yl ?_
          refine QOps.st rfl rfl (Yv.assign rfl).yl ?_
          refine QOps.nil ?_
          refine ⟨(k + 1, o), ?_, ?_, (SubE.cons rfl (SubE.cons rfl (SubE.cons rfl (SubE.cons rfl (SubE.cons rfl (SubE.nil _)))))), (List.Sublist.refl _)⟩
          · exact ⟨by omega, by rw [hst, ho]⟩
          · first | omega | (dsimp only; omega)
      · try replace hc2 := of_decide_eq_false hc2
        obtain rfl : k = ts.length := by omega
        refine Run.exit ?_
        refine Run.seq ?_
        refine Run.quiet (by intro h; cases h) ?_
        refine QOps.st rfl rfl (Yv.move rfl).yl ?_
        refine QOps.st rfl rfl (Yv.move rfl).yl ?_
        refine QOps.st rfl rfl (Yv.geq rfl rfl).yl ?_
        refine QOps.st rfl rfl (Yv.assign rfl).yl ?_
        refine QOps.st rfl rfl (Yv.assign rfl).yl ?_
        refine QOps.nil ?_
        refine Run.ret ?_
        refine retQ.of (.inr rfl) rfl (.tmp rfl (.tmp rfl .nil)) (fun w' hw' => ?_)
        refine ⟨?_, hw'.bel.below⟩
        rw [near_out2 hyes, ← ho]; rfl
theorem sStrongTugs_spec {w : World} {A : Option Addr} {c : Nat} {ts : List Tug} {p : Int} (hs : Sl w 3 A ts.length c (ts.flatMap Tug.enc)) : Calls Try.prog 30 #[.slice A ts.length c, .int .i64 p] w (RetRow w 3 1 (strongOf ts p).1.length ((strongOf ts p).1.flatMap intC) (fun v => .tuple #[v, .bool (strongOf ts p).2])) := by
  refine calls_of_run (vs := [_, _]) (L := [(0, _), (1, _)]) (n := 40) (F := []) (H := []) Try.func30 rfl rfl rfl rfl (HOk.start _) ?_
  refine Run.seq ?_
  refine Run.quiet (by intro h; cases h) ?_
  refine QOps.st rfl rfl (Yv.assign rfl).yl ?_
  refine QOps.st rfl rfl (Yv.assign rfl).yl ?_
  refine QOps.nil ?_
  refine Run.seq ?_
  refine Run.ops ?_
  refine SOps.one rfl (One.buildSliceG (pv := []) (cs := []) (fun _ => []) rfl el43 .nil rfl rfl (by kernel_rfl) rfl rfl (fun b1 => ?_))
  refine SOps.st rfl rfl (Yv.assign rfl).yl ?_
  refine SOps.nil ?_
  refine Run.seq ?_
  refine Run.seq ?_
  refine Run.quiet (by intro h; cases h) ?_
  refine QOps.st rfl rfl (Yv.move rfl).yl ?_
  refine QOps.st rfl rfl (Yl.call callable74 (.cons rfl (.nil)) (fun w' hw' => l17Tugs_spec ((Rd.arg hs) w' hw'))) ?_
  refine QOps.st rfl rfl (Yv.not rfl).yl ?_
  refine QOps.st rfl rfl (Yv.move rfl).yl ?_
  refine' QOps.or [_, _, _] _ (.tmp 15) rfl rfl rfl rfl rfl rfl (fun hg1 => ?_) ?_
  rotate_left
  · try replace hg1 := of_decide_eq_false hg1
    refine QOps.st rfl rfl (Yv.move rfl).yl ?_
    refine QOps.st rfl rfl (Yl.call callable77 (.cons rfl (.cons rfl (.cons rfl (.nil)))) (fun w' hw' => l1In_spec)) ?_
    refine QOps.st rfl rfl (Yv.not rfl).yl ?_
    exact QOps.nil rfl
  refine QOps.nil ?_
  refine Run.cond rfl (fun hc1 => ?_) (fun hc1 => ?_)
  · try replace hc1 := of_decide_eq_true hc1
    have hz : strongOf ts p = ([], false) := by unfold strongOf; rw [if_neg (both_no hc1)]
    refine Run.seq ?_
    refine Run.quiet (by intro h; cases h) ?_
    refine QOps.st rfl rfl (Yv.move rfl).yl ?_
    refine QOps.st rfl rfl (Yv.assign rfl).yl ?_
    refine QOps.st rfl rfl (Yv.assign rfl).yl ?_
    refine QOps.nil ?_
    refine Run.ret ?_
    refine retQ.of (.inr rfl) rfl (.tmp rfl (.tmp rfl .nil)) (fun w' hw' => ?_)
    rw [hz]; exact ⟨_, _, rfl, hw'.bel.below, hw'.ent _ (List.mem_of_getElem? (i := 0) rfl), fun g hg => (hw'.own _ (List.mem_of_getElem? (i := 0) rfl) g hg).elim id (by simp)⟩
  · try replace hc1 := of_decide_eq_false hc1
    have hyes := both_yes hc1
    have hy2 := hyes
    rw [Bool.and_eq_true] at hy2
    have hT := tugs_is hy2.1
    have htl := hT.len
    refine Run.skip ?_
    refine Run.seq ?_
    refine Run.seq ?_
    refine Run.quiet (by intro h; cases h) ?_
    refine QOps.st rfl rfl (Yv.assign rfl).yl ?_
    refine QOps.nil ?_
    refine Run.block ?_
    refine Run.loop (S := Nat × List Int × Option Addr × Nat) (fun s => match s with | (k, o, A4, c4) => k ≤ ts.length ∧ o = strongTo ts p k) (fun s => match s with | (k, o, A4, c4) => [(0, .slice A ts.length c), (1, .int .i64 p), (6, .slice A4 o.length c4), (7, .int .i64 (k : Int))]) (fun s => match s with | (k, o, A4, c4) => [.row A4 c4 3 1 o.length (o.flatMap intC)]) (fun s => match s with | (k, o, A4, c4) => ts.length - k) (0, [], some ⟨b1, 0, none⟩, 0) ?_ (SubE.cons rfl (SubE.cons rfl (SubE.cons rfl (SubE.cons rfl (SubE.nil _))))) (List.Sublist.refl _) ?_
    · exact ⟨Nat.zero_le _, rfl⟩
    · rintro ⟨k, o, A4, c4⟩ ⟨hk, ho⟩
      show Run _ _ _ _ _ [(0, .slice A ts.length c), (1, .int .i64 p), (6, .slice A4 o.length c4), (7, .int .i64 (k : Int))] [.row A4 c4 3 1 o.length (o.flatMap intC)] _
      have hol : o.length ≤ k := by rw [ho]; exact strongTo_len
      refine Run.seq ?_
      refine Run.seq ?_
      refine Run.quiet (by intro h; cases h) ?_
      refine QOps.st rfl rfl (Yv.move rfl).yl ?_
      refine QOps.st rfl rfl (Yv.move rfl).yl ?_
      refine QOps.st rfl rfl (Yv.lenS el41s rfl).yl ?_
      refine QOps.st rfl rfl (Yv.lss rfl rfl).yl ?_
      refine QOps.nil ?_
      refine Run.cond rfl (fun hc2 => ?_) (fun hc2 => ?_)
      · try replace hc2 := of_decide_eq_true hc2
        have hsl := strongTo_len (ts := ts) (p := p) (n := k)
        refine Run.skip ?_
        refine Run.seq ?_
        refine Run.block ?_
        refine Run.seq ?_
        refine Run.quiet (by intro h; cases h) ?_
        refine QOps.st rfl rfl (Yv.move rfl).yl ?_
        refine QOps.st rfl rfl (Yv.move rfl).yl ?_
        refine QOps.st rfl rfl (Yv.indexAddr k el41 rfl rfl rfl (Rd.arg hs) (by omega)).yl ?_
        refine QOps.st rfl rfl (Yv.fieldAddr fld49_2 rfl).yl ?_
        refine QOps.st rfl rfl (Yv.loadF lay3 rfl Tug.len (Rd.arg hs) (by first | omega | (simp; omega)) (by decide) rfl).yl ?_
        refine QOps.st rfl rfl (Yv.move rfl).yl ?_
        refine QOps.st rfl rfl (Yv.geq rfl rfl).yl ?_
        refine QOps.nil ?_
        refine Run.cond rfl (fun hc3 => ?_) (fun hc3 => ?_)
        · try replace hc3 := of_decide_eq_true hc3
          have hst : strongTo ts p (k + 1) = strongTo ts p k ++ [(nth ts k).id] := by rw [strongTo, if_pos hc3]
          refine Run.ops ?_
          refine SOps.st rfl rfl (Yv.move rfl).yl ?_
          refine SOps.st rfl rfl (Yv.move rfl).yl ?_
          refine SOps.st rfl rfl (Yv.move rfl).yl ?_
          refine SOps.st rfl rfl (Yv.indexAddr k el41 rfl rfl rfl (Rd.arg hs) (by omega)).yl ?_
          refine SOps.st rfl rfl (Yv.fieldAddr fld49_0 rfl).yl ?_
          refine SOps.st rfl rfl (Yv.loadF lay3 rfl Tug.len (Rd.arg hs) (by first | omega | (simp; omega)) (by decide) rfl).yl ?_
          refine SOps.one rfl (One.buildSliceG (pv := [(0, _)]) (cs := [_]) (fun l => match l with | [a0_0] => [a0_0] | _ => []) rfl el43 (.cons rfl (.nil)) rfl rfl (by kernel_rfl) rfl rfl (fun b2 => ?_))
          refine SOps.one rfl (One.append (enc := intC) (l := o) (l2 := [(nth ts k).id]) (m' := (o ++ [(nth ts k).id]).length) (i := 1) (H' := fun A c => [_, _]) rfl el43 zero3 rfl (by decide) rfl rfl rfl (Rd.row (i := 0) rfl) (fun _ => rfl) (by simp) (by simp; omega) (by simp; omega) (fun _ _ => rfl) (fun A1 c1 => ?_))
          refine SOps.st rfl rfl (Yv.assign rfl).yl ?_
          refine SOps.nil ?_
          refine Run.quiet (by intro h; cases h) ?_
          refine QOps.st rfl rfl (Yv.move rfl).yl ?_
          refine QOps.st rfl rfl (Yv.succN rfl rfl (by omega)).yl ?_
          refine QOps.st rfl rfl (Yv.assign rfl).yl ?_
          refine QOps.nil ?_
          refine ⟨(k + 1, _, _, _), ?_, ?_, (SubE.cons rfl (SubE.cons rfl (SubE.cons rfl (SubE.cons rfl (SubE.nil _))))), (List.Sublist.cons _ (List.Sublist.refl _))⟩
          · exact ⟨by omega, by rw [hst, ← ho]⟩
          · first | omega | (dsimp only; omega)
        · try replace hc3 := of_decide_eq_false hc3
          have hst : strongTo ts p (k + 1) = strongTo ts p k := by rw [strongTo, if_neg hc3]
          refine Run.skip ?_
          refine Run.quiet (by intro h; cases h) ?_
          refine QOps.st rfl rfl (Yv.move rfl).yl ?_
          refine QOps.st rfl rfl (Yv.succN rfl rfl (by omega)).yl ?_
          refine QOps.st rfl rfl (Yv.assign rfl).yl ?_
          refine QOps.nil ?_
          refine ⟨(k + 1, o, A4, c4), ?_, ?_, (SubE.cons rfl (SubE.cons rfl (SubE.cons rfl (SubE.cons rfl (SubE.nil _))))), (List.Sublist.refl _)⟩
          · exact ⟨by omega, by rw [hst, ← ho]⟩
          · first | omega | (dsimp only; omega)
      · try replace hc2 := of_decide_eq_false hc2
        obtain rfl : k = ts.length := by omega
        have hz : strongOf ts p = (o, true) := by unfold strongOf; rw [if_pos hyes, ho]
        refine Run.exit ?_
        refine Run.seq ?_
        refine Run.quiet (by intro h; cases h) ?_
        refine QOps.st rfl rfl (Yv.move rfl).yl ?_
        refine QOps.st rfl rfl (Yv.assign rfl).yl ?_
        refine QOps.st rfl rfl (Yv.assign rfl).yl ?_
        refine QOps.nil ?_
        refine Run.ret ?_
        refine retQ.of (.inr rfl) rfl (.tmp rfl (.tmp rfl .nil)) (fun w' hw' => ?_)
        rw [hz]; exact ⟨_, _, rfl, hw'.bel.below, hw'.ent _ (List.mem_of_getElem? (i := 0) rfl), fun g hg => (hw'.own _ (List.mem_of_getElem? (i := 0) rfl) g hg).elim id (by simp)⟩
end Go.Proofs.Ytkkmmbogeeopaaa
