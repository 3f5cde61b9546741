/- Tugs: an assignment is valid; what tugs do with one. Conditions: none. -/
import Derived.Test.YtkkmmbogeeopaaaMix5
namespace Go.Proofs.Ytkkmmbogeeopaaa
open Go.RowKit
set_option maxRecDepth 100000
theorem idxTug_spec {w : World} {A : Option Addr} {c n : Nat} {l : List Tug} {f : FuncId} {cap : List Value} {p : Tug → Bool} (hs : Sl w 3 A n c (l.flatMap Tug.enc)) (hn : l.length = n) (hf : callable Try.prog f = true) (hcl : ∀ w', Below w.heap.size w w' → ∀ i, i < n → Calls Try.prog f (#[] ++ [.agg (Tug.enc (nth l i)).toArray].toArray ++ cap.toArray) w' (RetB w' (.bool (p (nth l i))))) :
    Calls Try.prog 92 #[.slice A n c, .func (.func f) #[] cap.toArray] w (RetB w (.int .i64 (match firstTo n (fun k => p (nth l k)) with | some k => (k : Int) | none => -1))) := by
  have hmx := Sl.lenle hs
  refine calls_of_run (vs := [_, _]) (L := [(0, _), (1, _)]) (n := 19) (F := []) (H := []) Try.func92 rfl rfl rfl rfl (HOk.start _) ?_
  refine Run.seq ?_
  refine Run.quiet (by intro h; cases h) ?_
  refine QOps.st rfl rfl (Yv.assign rfl).yl ?_
  refine QOps.nil ?_
  refine Run.seq ?_
  refine Run.seq ?_
  refine Run.quiet (by intro h; cases h) ?_
  refine QOps.st rfl rfl (Yv.move rfl).yl ?_
  refine QOps.st rfl rfl (Yv.lenS el41s rfl).yl ?_
  refine QOps.st rfl rfl (Yv.move rfl).yl ?_
  refine QOps.nil ?_
  refine Run.block ?_
  refine Run.loop (S := Nat) (fun s => match s with | k => k ≤ n ∧ ∀ i, i < k → p (nth l i) = false) (fun s => match s with | k => [(0, .slice A n c), (1, .func (.func f) #[] cap.toArray), (7, .int .i64 (n : Int)), (8, .int .i64 (k : Int))]) (fun s => match s with | k => []) (fun s => match s with | k => n - k) 0 ?_ (SubE.cons rfl (SubE.cons rfl (SubE.cons rfl (SubE.cons rfl (SubE.nil _))))) (List.Sublist.refl _) ?_
  · exact ⟨by omega, fun i hi => by omega⟩
  · rintro k ⟨hk, hall⟩
    show Run _ _ _ _ _ [(0, .slice A n c), (1, .func (.func f) #[] cap.toArray), (7, .int .i64 (n : Int)), (8, .int .i64 (k : Int))] [] _
    refine Run.seq ?_
    refine Run.quiet (by intro h; cases h) ?_
    refine QOps.st rfl rfl (Yv.lss rfl rfl).yl ?_
    refine QOps.nil ?_
    refine Run.seq ?_
    refine Run.cond rfl (fun hc1 => ?_) (fun hc1 => ?_)
    · try replace hc1 := of_decide_eq_true hc1
      refine Run.skip ?_
      refine Run.seq ?_
      refine Run.block ?_
      refine Run.seq ?_
      refine Run.quiet (by intro h; cases h) ?_
      refine QOps.st rfl rfl (Yv.move rfl).yl ?_
      refine QOps.st rfl rfl (Yv.assign rfl).yl ?_
      refine QOps.nil ?_
      refine Run.seq ?_
      refine Run.quiet (by intro h; cases h) ?_
      refine QOps.st rfl rfl (Yv.move rfl).yl ?_
      refine QOps.st rfl rfl (Yv.move rfl).yl ?_
      refine QOps.st rfl rfl (Yv.move rfl).yl ?_
      refine QOps.st rfl rfl (Yv.indexAddr k el41 rfl rfl rfl (Rd.arg hs) (by omega)).yl ?_
      refine QOps.st rfl rfl (Yv.loadEs lay49 rfl Tug.len (Rd.arg hs) (by first | omega | (simp; omega)) (by decide)).yl ?_
      refine QOps.st rfl rfl (Yl.callV rfl hf (.cons rfl (.nil)) (fun w' hw' => hcl w' hw'.bel.below k (by omega))) ?_
      refine QOps.nil ?_
      refine Run.cond rfl (fun hc2 => ?_) (fun hc2 => ?_)
      · try replace hc2 := of_decide_eq_true hc2
        refine Run.seq ?_
        refine Run.quiet (by intro h; cases h) ?_
        refine QOps.st rfl rfl (Yv.move rfl).yl ?_
        refine QOps.st rfl rfl (Yv.assign rfl).yl ?_
        refine QOps.nil ?_
        refine Run.ret ?_
        refine retQ.of (.inr rfl) rfl (.tmp rfl .nil) (fun w' hw' => ?_)
        refine ⟨?_, hw'.bel.below⟩
        refine retI_eq ?_
        rw [firstTo_some (k := k) (by omega) hc2 hall]
      · try replace hc2 := of_decide_eq_false hc2
        refine Run.skip ?_
        refine Run.quiet (by intro h; cases h) ?_
        refine QOps.st rfl rfl (Yv.succN rfl rfl (by omega)).yl ?_
        refine QOps.st rfl rfl (Yv.move rfl).yl ?_
        refine QOps.nil ?_
        refine ⟨k + 1, ?_, ?_, (SubE.cons rfl (SubE.cons rfl (SubE.cons rfl (SubE.cons rfl (SubE.nil _))))), (List.Sublist.refl _)⟩
        · exact ⟨by omega, all_succ hall hc2⟩
        · first | omega | (dsimp only; omega)
    · try replace hc1 := of_decide_eq_false hc1
      refine Run.exit ?_
      refine Run.seq ?_
      refine Run.quiet (by intro h; cases h) ?_
      refine QOps.st rfl rfl (Yv.assign rfl).yl ?_
      refine QOps.nil ?_
      refine Run.ret ?_
      refine retQ.of (.inr rfl) rfl (.tmp rfl .nil) (fun w' hw' => ?_)
      refine ⟨?_, hw'.bel.below⟩
      refine retI_eq ?_
      rw [firstTo_none (fun i hi => hall i (by omega))]

theorem absOf_spec {w : World} {n : Int} (h : -1000000 ≤ n ∧ n ≤ 1000000) : Calls Try.prog 73 #[.int .i64 n] w (RetB w (.int .i64 (absI n))) := by
  refine calls_of_run (vs := [_]) (L := [(0, _)]) (n := 7) (F := []) (H := []) Try.func73 rfl rfl rfl rfl (HOk.start _) ?_
  refine Run.seq ?_
  refine Run.quiet (by intro h; cases h) ?_
  refine QOps.st rfl rfl (Yv.assign rfl).yl ?_
  refine QOps.nil ?_
  refine Run.seq ?_
  refine Run.quiet (by intro h; cases h) ?_
  refine QOps.st rfl rfl (Yv.move rfl).yl ?_
  refine QOps.st rfl rfl (Yv.move rfl).yl ?_
  refine QOps.st rfl rfl (Yv.neg rfl (by omega)).yl ?_
  refine QOps.st rfl rfl (Yv.max2 rfl rfl).yl ?_
  refine QOps.st rfl rfl (Yv.assign rfl).yl ?_
  refine QOps.nil ?_
  refine Run.ret ?_
  refine retQ.of (.inr rfl) rfl (.tmp rfl .nil) (fun w' hw' => ?_)
  refine ⟨?_, hw'.bel.below⟩
  refine retI_eq ?_
  unfold absI; split <;> omega
theorem l1Most_spec {w : World} {n m : Int} : Calls Try.prog 87 #[.int .i64 n, .int .i64 m] w (RetB w (.int .i64 (max n m))) := by
  refine calls_of_run (vs := [_, _]) (L := [(0, _), (1, _)]) (n := 10) (F := []) (H := []) Try.func87 rfl rfl rfl rfl (HOk.start _) ?_
  refine Run.seq ?_
  refine Run.quiet (by intro h; cases h) ?_
  refine QOps.st rfl rfl (Yv.assign rfl).yl ?_
  refine QOps.nil ?_
  refine Run.seq ?_
  refine Run.seq ?_
  refine Run.quiet (by intro h; cases h) ?_
  refine QOps.st rfl rfl (Yv.move rfl).yl ?_
  refine QOps.st rfl rfl (Yv.move rfl).yl ?_
  refine QOps.st rfl rfl (Yv.gtr rfl rfl).yl ?_
  refine QOps.nil ?_
  refine Run.cond rfl (fun hc1 => ?_) (fun hc1 => ?_)
  · try replace hc1 := of_decide_eq_true hc1
    refine Run.seq ?_
    refine Run.quiet (by intro h; cases h) ?_
    refine QOps.st rfl rfl (Yv.move rfl).yl ?_
    refine QOps.st rfl rfl (Yv.assign rfl).yl ?_
    refine QOps.nil ?_
    refine Run.ret ?_
    refine retQ.of (.inr rfl) rfl (.tmp rfl .nil) (fun w' hw' => ?_)
    refine ⟨?_, hw'.bel.below⟩
    refine retI_eq ?_
    omega
  · try replace hc1 := of_decide_eq_false hc1
    refine Run.skip ?_
    refine Run.seq ?_
    refine Run.quiet (by intro h; cases h) ?_
    refine QOps.st rfl rfl (Yv.move rfl).yl ?_
    refine QOps.st rfl rfl (Yv.assign rfl).yl ?_
    refine QOps.nil ?_
    refine Run.ret ?_
    refine retQ.of (.inr rfl) rfl (.tmp rfl .nil) (fun w' hw' => ?_)
    refine ⟨?_, hw'.bel.below⟩
    refine retI_eq ?_
    omega

theorem l17Far_spec {w : World} {a b : Int} (ha : -1000000 ≤ a ∧ a ≤ 1000000) (hb : -1000000 ≤ b ∧ b ≤ 1000000) : Calls Try.prog 70 #[.int .i64 a, .int .i64 b] w (RetB w (.int .i64 (nearAbs a b))) := by
  refine calls_of_run (vs := [_, _]) (L := [(0, _), (1, _)]) (n := 12) (F := []) (H := []) Try.func70 rfl rfl rfl rfl (HOk.start _) ?_
  refine Run.seq ?_
  refine Run.quiet (by intro h; cases h) ?_
  refine QOps.st rfl rfl (Yv.assign rfl).yl ?_
  refine QOps.nil ?_
  refine Run.seq ?_
  refine Run.quiet (by intro h; cases h) ?_
  refine QOps.st rfl rfl (Yv.move rfl).yl ?_
  refine QOps.st rfl rfl (Yv.move rfl).yl ?_
  refine QOps.st rfl rfl (Yv.sub rfl rfl (by omega)).yl ?_
  refine QOps.st rfl rfl (Yv.move rfl).yl ?_
  refine QOps.st rfl rfl (Yv.move rfl).yl ?_
  refine QOps.st rfl rfl (Yv.sub rfl rfl (by omega)).yl ?_
  refine QOps.st rfl rfl (Yl.call callable87 (.cons rfl (.cons rfl (.nil))) (fun w' hw' => l1Most_spec)) ?_
  refine QOps.st rfl rfl (Yv.assign rfl).yl ?_
  refine QOps.nil ?_
  refine Run.ret ?_
  refine retQ.of (.inr rfl) rfl (.tmp rfl .nil) (fun w' hw' => ?_)
  refine ⟨?_, hw'.bel.below⟩
  refine retI_eq ?_
  unfold nearAbs absI; split <;> omega
theorem tugIndex1_spec {w : World} {x : Tug} {id : Int} {blk : Nat} (h : Sl w 1 (some ⟨blk, 0, none⟩) 1 1 ([id].flatMap intC)) :
    Calls Try.prog 93 #[.agg x.enc.toArray, .pointer (some ⟨blk, 0, none⟩)] w (RetB w (.bool (decide (x.id = id)))) := by
  refine calls_of_run (vs := [_, _]) (L := [(0, _), (1, _)]) (n := 8) (F := []) (H := []) Try.func93 rfl rfl rfl rfl (HOk.start _) ?_
  refine Run.seq ?_
  refine Run.ops ?_
  refine SOps.one rfl (One.box (cs := [_, _, _]) rfl rfl rfl (fun b1 => ?_))
  refine SOps.st rfl rfl (Yv.assign rfl).yl ?_
  refine SOps.nil ?_
  refine Run.seq ?_
  refine Run.quiet (by intro h; cases h) ?_
  refine QOps.st rfl rfl (Yv.fieldAddr fld49_0 rfl).yl ?_
  refine QOps.st rfl rfl (Yv.loadB (i := 0) lay3 rfl rfl rfl rfl).yl ?_
  refine QOps.st rfl rfl (Yv.loadE (k := 0) lay3 rfl intC_len (Rd.arg h) (by simp) rfl).yl ?_
  refine QOps.st rfl rfl (Yv.eqI rfl rfl).yl ?_
  refine QOps.st rfl rfl (Yv.assign rfl).yl ?_
  refine QOps.nil ?_
  refine Run.ret ?_
  refine retQ.of (.inr rfl) rfl (.tmp rfl .nil) (fun w' hw' => ?_)
  refine ⟨?_, hw'.bel.below⟩
  exact rfl
theorem tugIndex_spec {w : World} {A : Option Addr} {c : Nat} {ts : List Tug} {id : Int} (hs : Sl w 3 A ts.length c (ts.flatMap Tug.enc)) : Calls Try.prog 66 #[.slice A ts.length c, .int .i64 id] w (RetB w (.int .i64 (findI ts id))) := by
  refine calls_of_run (vs := [_, _]) (L := [(0, _), (1, _)]) (n := 8) (F := []) (H := []) Try.func66 rfl rfl rfl rfl (HOk.start _) ?_
  refine Run.seq ?_
  refine Run.ops ?_
  refine SOps.one rfl (One.box (cs := [_]) rfl rfl rfl (fun b1 => ?_))
  refine SOps.st rfl rfl (Yv.assign rfl).yl ?_
  refine SOps.nil ?_
  refine Run.seq ?_
  refine Run.quiet (by intro h; cases h) ?_
  refine QOps.st rfl rfl (Yv.move rfl).yl ?_
  refine QOps.st rfl rfl (Yv.makeFunc .nil (.cons rfl (.nil))).yl ?_
  refine QOps.st rfl rfl (Yl.call callable92 (.cons rfl (.cons rfl (.nil))) (fun w' hw' => idxTug_spec (p := fun x => decide (x.id = id)) ((Rd.arg hs) w' hw') rfl callable93 (fun w'' hb i hi => tugIndex1_spec (Rd.blkE intC_len (i := 0) (x := id) rfl w'' (hw'.up hb))))) ?_
  refine QOps.st rfl rfl (Yv.assign rfl).yl ?_
  refine QOps.nil ?_
  refine Run.ret ?_
  refine retQ.of (.inr rfl) rfl (.tmp rfl .nil) (fun w' hw' => ?_)
  refine ⟨?_, hw'.bel.below⟩
  exact rfl
theorem l17Find_spec {w : World} {A : Option Addr} {c : Nat} {ts : List Tug} {id : Int} (hs : Sl w 3 A ts.length c (ts.flatMap Tug.enc)) : Calls Try.prog 68 #[.slice A ts.length c, .int .i64 id] w (RetB w (.int .i64 (findI ts id))) := by
  have hmx := Sl.lenle hs
  refine calls_of_run (vs := [_, _]) (L := [(0, _), (1, _)]) (n := 20) (F := []) (H := []) Try.func68 rfl rfl rfl rfl (HOk.start _) ?_
  refine Run.seq ?_
  refine Run.quiet (by intro h; cases h) ?_
  refine QOps.st rfl rfl (Yv.assign rfl).yl ?_
  refine QOps.nil ?_
  refine Run.seq ?_
  refine Run.seq ?_
  refine Run.quiet (by intro h; cases h) ?_
  refine QOps.st rfl rfl (Yv.assign rfl).yl ?_
  refine QOps.nil ?_
  refine Run.block ?_
  refine Run.loop (S := Nat) (fun s => match s with | k => k ≤ ts.length ∧ ∀ i, i < k → decide ((nth ts i).id = id) = false) (fun s => match s with | k => [(0, .slice A ts.length c), (1, .int .i64 id), (5, .int .i64 (k : Int))]) (fun s => match s with | k => []) (fun s => match s with | k => ts.length - k) 0 ?_ (SubE.cons rfl (SubE.cons rfl (SubE.cons rfl (SubE.nil _)))) (List.Sublist.refl _) ?_
  · exact ⟨by omega, fun i hi => by omega⟩
  · rintro k ⟨hk, hall⟩
    show Run _ _ _ _ _ [(0, .slice A ts.length c), (1, .int .i64 id), (5, .int .i64 (k : Int))] [] _
    refine Run.seq ?_
    refine Run.seq ?_
    refine Run.quiet (by intro h; cases h) ?_
    refine QOps.st rfl rfl (Yv.move rfl).yl ?_
    refine QOps.st rfl rfl (Yv.move rfl).yl ?_
    refine QOps.st rfl rfl (Yv.lenS el41s rfl).yl ?_
    refine QOps.st rfl rfl (Yv.lss rfl rfl).yl ?_
    refine QOps.nil ?_
    refine Run.cond rfl (fun hc1 => ?_) (fun hc1 => ?_)
    · try replace hc1 := of_decide_eq_true hc1
      refine Run.skip ?_
      refine Run.seq ?_
      refine Run.block ?_
      refine Run.seq ?_
      refine Run.quiet (by intro h; cases h) ?_
      refine QOps.st rfl rfl (Yv.move rfl).yl ?_
      refine QOps.st rfl rfl (Yv.move rfl).yl ?_
      refine QOps.st rfl rfl (Yv.indexAddr k el41 rfl rfl rfl (Rd.arg hs) (by omega)).yl ?_
      refine QOps.st rfl rfl (Yv.fieldAddr fld49_0 rfl).yl ?_
      refine QOps.st rfl rfl (Yv.loadF lay3 rfl Tug.len (Rd.arg hs) (by first | omega | (simp; omega)) (by decide) rfl).yl ?_
      refine QOps.st rfl rfl (Yv.move rfl).yl ?_
      refine QOps.st rfl rfl (Yv.eqI rfl rfl).yl ?_
      refine QOps.nil ?_
      refine Run.cond rfl (fun hc2 => ?_) (fun hc2 => ?_)
      · try replace hc2 := of_decide_eq_true hc2
        refine Run.seq ?_
        refine Run.quiet (by intro h; cases h) ?_
        refine QOps.st rfl rfl (Yv.move rfl).yl ?_
        refine QOps.st rfl rfl (Yv.assign rfl).yl ?_
        refine QOps.nil ?_
        refine Run.ret ?_
        refine retQ.of (.inr rfl) rfl (.tmp rfl .nil) (fun w' hw' => ?_)
        refine ⟨?_, hw'.bel.below⟩
        refine retI_eq ?_
        unfold findI findTug
        rw [firstTo_some (k := k) (by omega) (decide_eq_true hc2) hall]
      · try replace hc2 := of_decide_eq_false hc2
        refine Run.skip ?_
        refine Run.quiet (by intro h; cases h) ?_
        refine QOps.st rfl rfl (Yv.move rfl).yl ?_
        refine QOps.st rfl rfl (Yv.succN rfl rfl (by omega)).yl ?_
        refine QOps.st rfl rfl (Yv.assign rfl).yl ?_
        refine QOps.nil ?_
        refine ⟨k + 1, ?_, ?_, (SubE.cons rfl (SubE.cons rfl (SubE.cons rfl (SubE.nil _)))), (List.Sublist.refl _)⟩
        · exact ⟨by omega, all_succ hall (decide_eq_false hc2)⟩
        · first | omega | (dsimp only; omega)
    · try replace hc1 := of_decide_eq_false hc1
      refine Run.exit ?_
      refine Run.seq ?_
      refine Run.quiet (by intro h; cases h) ?_
      refine QOps.st rfl rfl (Yv.assign rfl).yl ?_
      refine QOps.nil ?_
      refine Run.ret ?_
      refine retQ.of (.inr rfl) rfl (.tmp rfl .nil) (fun w' hw' => ?_)
      refine ⟨?_, hw'.bel.below⟩
      refine retI_eq ?_
      unfold findI findTug
      rw [firstTo_none (fun i hi => hall i (by omega))]
theorem findI_lt {ts : List Tug} {id : Int} : findI ts id < (ts.length : Int) := by
  unfold findI
  cases h : findTug ts id with
  | none => show (-1 : Int) < _; omega
  | some k => have := (findTug_some h).1; show (k : Int) < _; omega
theorem takes_find {ts : List Tug} {j : Job} {id : Int} : (decide (findI ts id < 0) || decide ((nth ts (findI ts id).toNat).power < j.power)) = !takes ts j id := by
  unfold findI takes
  cases h : findTug ts id with
  | none => simp
  | some k =>
    have e : ((k : Int)).toNat = k := by omega
    simp only [e]
    rw [decide_eq_false (show ¬ ((k : Int) < 0) by omega)]
    by_cases h2 : j.power ≤ (nth ts k).power
    · rw [decide_eq_true h2, decide_eq_false (by omega)]; rfl
    · rw [decide_eq_false h2, decide_eq_true (by omega)]; rfl
theorem plan_bad {ts : List Tug} {js : List Job} {who : List Int} {k : Nat} (hk : k < who.length) (h : takes ts (nth js k) (nth who k) = false) : planOk ts js who = false := by
  unfold planOk
  rw [allTo_false hk h]
  simp
theorem who_bad {ts : List Tug} {js : List Job} {who : List Int} {k : Nat} (hk : k < who.length) (h : takes ts (nth js k) (nth who k) = false) : whoPre ts js who = false := by
  unfold whoPre
  rw [allTo_false hk h]
  simp
theorem isTugPlan_spec {w : World} {A : Option Addr} {c : Nat} {ts : List Tug} {A2 : Option Addr} {c2 : Nat} {js : List Job} {A3 : Option Addr} {c3 : Nat} {who : List Int} (hs : Sl w 3 A ts.length c (ts.flatMap Tug.enc)) (hs2 : Sl w 5 A2 js.length c2 (js.flatMap Job.enc)) (hs3 : Sl w 1 A3 who.length c3 (who.flatMap intC)) : Calls Try.prog 65 #[.slice A ts.length c, .slice A2 js.length c2, .slice A3 who.length c3] w (RetB w (.bool (planOk ts js who))) := by
  have hmx := Sl.lenle hs3
  have hmj := Sl.lenle hs2
  refine calls_of_run (vs := [_, _, _]) (L := [(0, _), (1, _), (2, _)]) (n := 51) (F := []) (H := []) Try.func65 rfl rfl rfl rfl (HOk.start _) ?_
  refine Run.seq ?_
  refine Run.quiet (by intro h; cases h) ?_
  refine QOps.st rfl rfl (Yv.assign rfl).yl ?_
  refine QOps.nil ?_
  refine Run.seq ?_
  refine Run.seq ?_
  refine Run.quiet (by intro h; cases h) ?_
  refine QOps.st rfl rfl (Yv.move rfl).yl ?_
  refine QOps.st rfl rfl (Yl.call callable34 (.cons rfl (.nil)) (fun w' hw' => AreTugs_spec ((Rd.arg hs) w' hw'))) ?_
  refine QOps.st rfl rfl (Yv.not rfl).yl ?_
  refine QOps.st rfl rfl (Yv.move rfl).yl ?_
  refine' QOps.or [_, _, _] _ (.tmp 16) rfl rfl rfl rfl rfl rfl (fun hg1 => ?_) ?_
  rotate_left
  · try replace hg1 := of_decide_eq_false hg1
    refine QOps.st rfl rfl (Yv.move rfl).yl ?_
    refine QOps.st rfl rfl (Yl.call callable36 (.cons rfl (.nil)) (fun w' hw' => AreTugJobs_spec ((Rd.arg hs2) w' hw'))) ?_
    refine QOps.st rfl rfl (Yv.not rfl).yl ?_
    exact QOps.nil rfl
  refine QOps.st rfl rfl (Yv.move rfl).yl ?_
  refine' QOps.or [_, _, _, _, _] _ (.tmp 23) rfl rfl rfl rfl rfl rfl (fun hg2 => ?_) ?_
  rotate_left
  · try replace hg2 := of_decide_eq_false hg2
    refine QOps.st rfl rfl (Yv.move rfl).yl ?_
    refine QOps.st rfl rfl (Yv.lenS el43s rfl).yl ?_
    refine QOps.st rfl rfl (Yv.move rfl).yl ?_
    refine QOps.st rfl rfl (Yv.lenS el42s rfl).yl ?_
    refine QOps.st rfl rfl (Yv.neI rfl rfl).yl ?_
    exact QOps.nil rfl
  refine QOps.nil ?_
  refine Run.cond rfl (fun hc1 => ?_) (fun hc1 => ?_)
  · try replace hc1 := of_decide_eq_true hc1
    have hz : planOk ts js who = false := by unfold planOk; revert hc1; cases tugsOk ts <;> cases jobsOk js <;> cases decide ((who.length : Int) = (js.length : Int)) <;> simp
    refine Run.seq ?_
    refine Run.quiet (by intro h; cases h) ?_
    refine QOps.st rfl rfl (Yv.assign rfl).yl ?_
    refine QOps.nil ?_
    refine Run.ret ?_
    refine retQ.of (.inr rfl) rfl (.tmp rfl .nil) (fun w' hw' => ?_)
    refine ⟨?_, hw'.bel.below⟩
    refine retB_eq ?_
    exact hz.symm
  · try replace hc1 := of_decide_eq_false hc1
    have hg : tugsOk ts = true ∧ jobsOk js = true ∧ decide ((who.length : Int) = (js.length : Int)) = true := by revert hc1; cases tugsOk ts <;> cases jobsOk js <;> cases decide ((who.length : Int) = (js.length : Int)) <;> simp
    have hlen := of_decide_eq_true hg.2.2
    refine Run.skip ?_
    refine Run.seq ?_
    refine Run.seq ?_
    refine Run.quiet (by intro h; cases h) ?_
    refine QOps.st rfl rfl (Yv.move rfl).yl ?_
    refine QOps.st rfl rfl (Yv.lenS el43s rfl).yl ?_
    refine QOps.st rfl rfl (Yv.move rfl).yl ?_
    refine QOps.nil ?_
    refine Run.block ?_
    refine Run.loop (S := Nat) (fun s => match s with | k => k ≤ who.length ∧ ∀ i, i < k → takes ts (nth js i) (nth who i) = true) (fun s => match s with | k => [(0, .slice A ts.length c), (1, .slice A2 js.length c2), (25, .slice A3 who.length c3), (26, .int .i64 (who.length : Int)), (27, .int .i64 (k : Int))]) (fun s => match s with | k => []) (fun s => match s with | k => who.length - k) 0 ?_ (SubE.cons rfl (SubE.cons rfl (SubE.cons rfl (SubE.cons rfl (SubE.cons rfl (SubE.nil _)))))) (List.Sublist.refl _) ?_
    · exact ⟨by omega, fun i hi => by omega⟩
    · rintro k ⟨hk, hall⟩
      show Run _ _ _ _ _ [(0, .slice A ts.length c), (1, .slice A2 js.length c2), (25, .slice A3 who.length c3), (26, .int .i64 (who.length : Int)), (27, .int .i64 (k : Int))] [] _
      refine Run.seq ?_
      refine Run.quiet (by intro h; cases h) ?_
      refine QOps.st rfl rfl (Yv.lss rfl rfl).yl ?_
      refine QOps.nil ?_
      refine Run.seq ?_
      refine Run.cond rfl (fun hc2 => ?_) (fun hc2 => ?_)
      · try replace hc2 := of_decide_eq_true hc2
        refine Run.skip ?_
        refine Run.seq ?_
        refine Run.block ?_
        refine Run.seq ?_
        refine Run.quiet (by intro h; cases h) ?_
        refine QOps.st rfl rfl (Yv.move rfl).yl ?_
        refine QOps.st rfl rfl (Yv.indexAddr k el43 rfl rfl rfl (Rd.arg hs3) (by omega)).yl ?_
        refine QOps.st rfl rfl (Yv.loadE lay3 rfl intC_len (Rd.arg hs3) (by first | omega | (simp; omega)) rfl).yl ?_
        refine QOps.st rfl rfl (Yv.assign rfl).yl ?_
        refine QOps.st rfl rfl (Yv.assign rfl).yl ?_
        refine QOps.nil ?_
        refine Run.seq ?_
        refine Run.quiet (by intro h; cases h) ?_
        refine QOps.st rfl rfl (Yv.move rfl).yl ?_
        refine QOps.st rfl rfl (Yv.move rfl).yl ?_
        refine QOps.st rfl rfl (Yl.call callable66 (.cons rfl (.cons rfl (.nil))) (fun w' hw' => tugIndex_spec ((Rd.arg hs) w' hw'))) ?_
        refine QOps.st rfl rfl (Yv.assign rfl).yl ?_
        refine QOps.nil ?_
        refine Run.seq ?_
        refine Run.quiet (fun _ => ⟨by kernel_rfl, by kernel_rfl⟩) ?_
        refine QOps.st rfl rfl (Yv.move rfl).yl ?_
        refine QOps.st rfl rfl (Yv.lss rfl rfl).yl ?_
        refine QOps.st rfl rfl (Yv.move rfl).yl ?_
        refine' QOps.or [_, _, _, _, _, _, _, _, _, _, _] _ (.tmp 48) rfl rfl rfl rfl rfl rfl (fun hg3 => ?_) ?_
        rotate_left
        · try replace hg3 := of_decide_eq_false hg3
          refine QOps.st rfl rfl (Yv.move rfl).yl ?_
          refine QOps.st rfl rfl (Yv.move rfl).yl ?_
          refine QOps.st rfl rfl (Yv.indexAddr (findI ts (nth who k)).toNat el41 rfl rfl (by omega) (Rd.arg hs) (by have := findI_lt (ts := ts) (id := nth who k); omega)).yl ?_
          refine QOps.st rfl rfl (Yv.fieldAddr fld49_2 rfl).yl ?_
          refine QOps.st rfl rfl (Yv.loadF lay3 rfl Tug.len (Rd.arg hs) (by have := findI_lt (ts := ts) (id := nth who k); omega) (by decide) rfl).yl ?_
          refine QOps.st rfl rfl (Yv.move rfl).yl ?_
          refine QOps.st rfl rfl (Yv.move rfl).yl ?_
          refine QOps.st rfl rfl (Yv.indexAddr k el42 rfl rfl rfl (Rd.arg hs2) (by omega)).yl ?_
          refine QOps.st rfl rfl (Yv.fieldAddr fld51_3 rfl).yl ?_
          refine QOps.st rfl rfl (Yv.loadF lay3 rfl Job.len (Rd.arg hs2) (by first | omega | (simp; omega)) (by decide) rfl).yl ?_
          refine QOps.st rfl rfl (Yv.lss rfl rfl).yl ?_
          exact QOps.nil rfl
        refine QOps.nil ?_
        refine Run.cond rfl (fun hc3 => ?_) (fun hc3 => ?_)
        · try replace hc3 := of_decide_eq_true hc3
          have hb : takes ts (nth js k) (nth who k) = false := by have h9 := takes_find (ts := ts) (j := nth js k) (id := nth who k); rw [show (decide (findI ts (nth who k) < 0) || decide ((nth ts (findI ts (nth who k)).toNat).power < (nth js k).power)) = true from hc3] at h9; simpa using h9.symm
          refine Run.seq ?_
          refine Run.quiet (by intro h; cases h) ?_
          refine QOps.st rfl rfl (Yv.assign rfl).yl ?_
          refine QOps.nil ?_
          refine Run.ret ?_
          refine retQ.of (.inr rfl) rfl (.tmp rfl .nil) (fun w' hw' => ?_)
          refine ⟨?_, hw'.bel.below⟩
          refine retB_eq ?_
          exact (plan_bad (k := k) (by omega) hb).symm
        · try replace hc3 := of_decide_eq_false hc3
          have hb : takes ts (nth js k) (nth who k) = true := by have h9 := takes_find (ts := ts) (j := nth js k) (id := nth who k); rw [show (decide (findI ts (nth who k) < 0) || decide ((nth ts (findI ts (nth who k)).toNat).power < (nth js k).power)) = false from hc3] at h9; simpa using h9.symm
          refine Run.skip ?_
          refine Run.quiet (by intro h; cases h) ?_
          refine QOps.st rfl rfl (Yv.succN rfl rfl (by omega)).yl ?_
          refine QOps.st rfl rfl (Yv.move rfl).yl ?_
          refine QOps.nil ?_
          refine ⟨k + 1, ?_, ?_, (SubE.cons rfl (SubE.cons rfl (SubE.cons rfl (SubE.cons rfl (SubE.cons rfl (SubE.nil _)))))), (List.Sublist.refl _)⟩
          · exact ⟨by omega, all_succ hall hb⟩
          · first | omega | (dsimp only; omega)
      · try replace hc2 := of_decide_eq_false hc2
        refine Run.exit ?_
        refine Run.seq ?_
        refine Run.quiet (by intro h; cases h) ?_
        refine QOps.st rfl rfl (Yv.assign rfl).yl ?_
        refine QOps.nil ?_
        refine Run.ret ?_
        refine retQ.of (.inr rfl) rfl (.tmp rfl .nil) (fun w' hw' => ?_)
        refine ⟨?_, hw'.bel.below⟩
        refine retB_eq ?_
        unfold planOk; rw [hg.1, hg.2.1, hg.2.2, allTo_iff.2 (fun i hi => hall i (by omega))]; rfl

theorem l17Who_spec {w : World} {A : Option Addr} {c : Nat} {ts : List Tug} {A2 : Option Addr} {c2 : Nat} {js : List Job} {A3 : Option Addr} {c3 : Nat} {who : List Int} (hs : Sl w 3 A ts.length c (ts.flatMap Tug.enc)) (hs2 : Sl w 5 A2 js.length c2 (js.flatMap Job.enc)) (hs3 : Sl w 1 A3 who.length c3 (who.flatMap intC)) : Calls Try.prog 94 #[.slice A ts.length c, .slice A2 js.length c2, .slice A3 who.length c3] w (RetB w (.bool (whoPre ts js who))) := by
  have hmx := Sl.lenle hs3
  have hmj := Sl.lenle hs2
  refine calls_of_run (vs := [_, _, _]) (L := [(0, _), (1, _), (2, _)]) (n := 51) (F := []) (H := []) Try.func94 rfl rfl rfl rfl (HOk.start _) ?_
  refine Run.seq ?_
  refine Run.quiet (by intro h; cases h) ?_
  refine QOps.st rfl rfl (Yv.assign rfl).yl ?_
  refine QOps.nil ?_
  refine Run.seq ?_
  refine Run.seq ?_
  refine Run.quiet (by intro h; cases h) ?_
  refine QOps.st rfl rfl (Yv.move rfl).yl ?_
  refine QOps.st rfl rfl (Yl.call callable74 (.cons rfl (.nil)) (fun w' hw' => l17Tugs_spec ((Rd.arg hs) w' hw'))) ?_
  refine QOps.st rfl rfl (Yv.not rfl).yl ?_
  refine QOps.st rfl rfl (Yv.move rfl).yl ?_
  refine' QOps.or [_, _, _] _ (.tmp 15) rfl rfl rfl rfl rfl rfl (fun hg1 => ?_) ?_
  rotate_left
  · try replace hg1 := of_decide_eq_false hg1
    refine QOps.st rfl rfl (Yv.move rfl).yl ?_
    refine QOps.st rfl rfl (Yl.call callable79 (.cons rfl (.nil)) (fun w' hw' => l17Jobs_spec ((Rd.arg hs2) w' hw'))) ?_
    refine QOps.st rfl rfl (Yv.not rfl).yl ?_
    exact QOps.nil rfl
  refine QOps.st rfl rfl (Yv.move rfl).yl ?_
  refine' QOps.or [_, _, _, _, _] _ (.tmp 22) rfl rfl rfl rfl rfl rfl (fun hg2 => ?_) ?_
  rotate_left
  · try replace hg2 := of_decide_eq_false hg2
    refine QOps.st rfl rfl (Yv.move rfl).yl ?_
    refine QOps.st rfl rfl (Yv.lenS el43s rfl).yl ?_
    refine QOps.st rfl rfl (Yv.move rfl).yl ?_
    refine QOps.st rfl rfl (Yv.lenS el42s rfl).yl ?_
    refine QOps.st rfl rfl (Yv.gtr rfl rfl).yl ?_
    exact QOps.nil rfl
  refine QOps.nil ?_
  refine Run.cond rfl (fun hc1 => ?_) (fun hc1 => ?_)
  · try replace hc1 := of_decide_eq_true hc1
    have hz : whoPre ts js who = false := by unfold whoPre; rw [show decide ((who.length : Int) ≤ (js.length : Int)) = !decide ((js.length : Int) < (who.length : Int)) by by_cases h : (js.length : Int) < who.length <;> simp [h, Int.not_le.2] <;> omega]; revert hc1; cases tugsOk ts <;> cases jobsOk js <;> cases decide ((js.length : Int) < (who.length : Int)) <;> simp
    refine Run.seq ?_
    refine Run.quiet (by intro h; cases h) ?_
    refine QOps.st rfl rfl (Yv.assign rfl).yl ?_
    refine QOps.nil ?_
    refine Run.ret ?_
    refine retQ.of (.inr rfl) rfl (.tmp rfl .nil) (fun w' hw' => ?_)
    refine ⟨?_, hw'.bel.below⟩
    refine retB_eq ?_
    exact hz.symm
  · try replace hc1 := of_decide_eq_false hc1
    have hg0 : tugsOk ts = true ∧ jobsOk js = true ∧ decide ((js.length : Int) < (who.length : Int)) = false := by revert hc1; cases tugsOk ts <;> cases jobsOk js <;> cases decide ((js.length : Int) < (who.length : Int)) <;> simp
    have hlen := of_decide_eq_false hg0.2.2
    have hg : tugsOk ts = true ∧ jobsOk js = true ∧ decide ((who.length : Int) ≤ (js.length : Int)) = true := ⟨hg0.1, hg0.2.1, decide_eq_true (by omega)⟩
    refine Run.skip ?_
    refine Run.seq ?_
    refine Run.seq ?_
    refine Run.quiet (by intro h; cases h) ?_
    refine QOps.st rfl rfl (Yv.assign rfl).yl ?_
    refine QOps.nil ?_
    refine Run.block ?_
    refine Run.loop (S := Nat) (fun s => match s with | k => k ≤ who.length ∧ ∀ i, i < k → takes ts (nth js i) (nth who i) = true) (fun s => match s with | k => [(0, .slice A ts.length c), (1, .slice A2 js.length c2), (2, .slice A3 who.length c3), (7, .int .i64 (k : Int))]) (fun s => match s with | k => []) (fun s => match s with | k => who.length - k) 0 ?_ (SubE.cons rfl (SubE.cons rfl (SubE.cons rfl (SubE.cons rfl (SubE.nil _))))) (List.Sublist.refl _) ?_
    · exact ⟨by omega, fun i hi => by omega⟩
    · rintro k ⟨hk, hall⟩
      show Run _ _ _ _ _ [(0, .slice A ts.length c), (1, .slice A2 js.length c2), (2, .slice A3 who.length c3), (7, .int .i64 (k : Int))] [] _
      refine Run.seq ?_
      refine Run.seq ?_
      refine Run.quiet (by intro h; cases h) ?_
      refine QOps.st rfl rfl (Yv.move rfl).yl ?_
      refine QOps.st rfl rfl (Yv.move rfl).yl ?_
      refine QOps.st rfl rfl (Yv.lenS el43s rfl).yl ?_
      refine QOps.st rfl rfl (Yv.lss rfl rfl).yl ?_
      refine QOps.nil ?_
      refine Run.cond rfl (fun hc2 => ?_) (fun hc2 => ?_)
      · try replace hc2 := of_decide_eq_true hc2
        refine Run.skip ?_
        refine Run.seq ?_
        refine Run.block ?_
        refine Run.seq ?_
        refine Run.quiet (by intro h; cases h) ?_
        refine QOps.st rfl rfl (Yv.move rfl).yl ?_
        refine QOps.st rfl rfl (Yv.move rfl).yl ?_
        refine QOps.st rfl rfl (Yv.move rfl).yl ?_
        refine QOps.st rfl rfl (Yv.indexAddr k el43 rfl rfl rfl (Rd.arg hs3) (by omega)).yl ?_
        refine QOps.st rfl rfl (Yv.loadE lay3 rfl intC_len (Rd.arg hs3) (by first | omega | (simp; omega)) rfl).yl ?_
        refine QOps.st rfl rfl (Yl.call callable68 (.cons rfl (.cons rfl (.nil))) (fun w' hw' => l17Find_spec ((Rd.arg hs) w' hw'))) ?_
        refine QOps.st rfl rfl (Yv.assign rfl).yl ?_
        refine QOps.nil ?_
        refine Run.seq ?_
        refine Run.quiet (fun _ => ⟨by kernel_rfl, by kernel_rfl⟩) ?_
        refine QOps.st rfl rfl (Yv.move rfl).yl ?_
        refine QOps.st rfl rfl (Yv.lss rfl rfl).yl ?_
        refine QOps.st rfl rfl (Yv.move rfl).yl ?_
        refine' QOps.or [_, _, _, _, _, _, _, _, _, _, _] _ (.tmp 49) rfl rfl rfl rfl rfl rfl (fun hg3 => ?_) ?_
        rotate_left
        · try replace hg3 := of_decide_eq_false hg3
          refine QOps.st rfl rfl (Yv.move rfl).yl ?_
          refine QOps.st rfl rfl (Yv.move rfl).yl ?_
          refine QOps.st rfl rfl (Yv.indexAddr (findI ts (nth who k)).toNat el41 rfl rfl (by omega) (Rd.arg hs) (by have := findI_lt (ts := ts) (id := nth who k); omega)).yl ?_
          refine QOps.st rfl rfl (Yv.fieldAddr fld49_2 rfl).yl ?_
          refine QOps.st rfl rfl (Yv.loadF lay3 rfl Tug.len (Rd.arg hs) (by have := findI_lt (ts := ts) (id := nth who k); omega) (by decide) rfl).yl ?_
          refine QOps.st rfl rfl (Yv.move rfl).yl ?_
          refine QOps.st rfl rfl (Yv.move rfl).yl ?_
          refine QOps.st rfl rfl (Yv.indexAddr k el42 rfl rfl rfl (Rd.arg hs2) (by omega)).yl ?_
          refine QOps.st rfl rfl (Yv.fieldAddr fld51_3 rfl).yl ?_
          refine QOps.st rfl rfl (Yv.loadF lay3 rfl Job.len (Rd.arg hs2) (by first | omega | (simp; omega)) (by decide) rfl).yl ?_
          refine QOps.st rfl rfl (Yv.lss rfl rfl).yl ?_
          exact QOps.nil rfl
        refine QOps.nil ?_
        refine Run.cond rfl (fun hc3 => ?_) (fun hc3 => ?_)
        · try replace hc3 := of_decide_eq_true hc3
          have hb : takes ts (nth js k) (nth who k) = false := by have h9 := takes_find (ts := ts) (j := nth js k) (id := nth who k); rw [show (decide (findI ts (nth who k) < 0) || decide ((nth ts (findI ts (nth who k)).toNat).power < (nth js k).power)) = true from hc3] at h9; simpa using h9.symm
          refine Run.seq ?_
          refine Run.quiet (by intro h; cases h) ?_
          refine QOps.st rfl rfl (Yv.assign rfl).yl ?_
          refine QOps.nil ?_
          refine Run.ret ?_
          refine retQ.of (.inr rfl) rfl (.tmp rfl .nil) (fun w' hw' => ?_)
          refine ⟨?_, hw'.bel.below⟩
          refine retB_eq ?_
          exact (who_bad (k := k) (by omega) hb).symm
        · try replace hc3 := of_decide_eq_false hc3
          have hb : takes ts (nth js k) (nth who k) = true := by have h9 := takes_find (ts := ts) (j := nth js k) (id := nth who k); rw [show (decide (findI ts (nth who k) < 0) || decide ((nth ts (findI ts (nth who k)).toNat).power < (nth js k).power)) = false from hc3] at h9; simpa using h9.symm
          refine Run.skip ?_
          refine Run.quiet (by intro h; cases h) ?_
          refine QOps.st rfl rfl (Yv.move rfl).yl ?_
          refine QOps.st rfl rfl (Yv.succN rfl rfl (by omega)).yl ?_
          refine QOps.st rfl rfl (Yv.assign rfl).yl ?_
          refine QOps.nil ?_
          refine ⟨k + 1, ?_, ?_, (SubE.cons rfl (SubE.cons rfl (SubE.cons rfl (SubE.cons rfl (SubE.nil _))))), (List.Sublist.refl _)⟩
          · exact ⟨by omega, all_succ hall hb⟩
          · first | omega | (dsimp only; omega)
      · try replace hc2 := of_decide_eq_false hc2
        refine Run.exit ?_
        refine Run.seq ?_
        refine Run.quiet (by intro h; cases h) ?_
        refine QOps.st rfl rfl (Yv.assign rfl).yl ?_
        refine QOps.nil ?_
        refine Run.ret ?_
        refine retQ.of (.inr rfl) rfl (.tmp rfl .nil) (fun w' hw' => ?_)
        refine ⟨?_, hw'.bel.below⟩
        refine retB_eq ?_
        unfold whoPre; rw [hg.1, hg.2.1, hg.2.2, allTo_iff.2 (fun i hi => hall i (by omega))]; rfl

theorem l17Asked_spec {w : World} {A : Option Addr} {c : Nat} {ts : List Tug} {A2 : Option Addr} {c2 : Nat} {js : List Job} {A3 : Option Addr} {c3 : Nat} {who : List Int} (hs : Sl w 3 A ts.length c (ts.flatMap Tug.enc)) (hs2 : Sl w 5 A2 js.length c2 (js.flatMap Job.enc)) (hs3 : Sl w 1 A3 who.length c3 (who.flatMap intC)) : Calls Try.prog 69 #[.slice A ts.length c, .slice A2 js.length c2, .slice A3 who.length c3] w (RetB w (.bool (planOk ts js who))) := by
  refine calls_of_run (vs := [_, _, _]) (L := [(0, _), (1, _), (2, _)]) (n := 18) (F := []) (H := []) Try.func69 rfl rfl rfl rfl (HOk.start _) ?_
  refine Run.seq ?_
  refine Run.quiet (by intro h; cases h) ?_
  refine QOps.st rfl rfl (Yv.assign rfl).yl ?_
  refine QOps.nil ?_
  refine Run.seq ?_
  refine Run.quiet (by intro h; cases h) ?_
  refine QOps.st rfl rfl (Yv.move rfl).yl ?_
  refine QOps.st rfl rfl (Yv.move rfl).yl ?_
  refine QOps.st rfl rfl (Yv.move rfl).yl ?_
  refine QOps.st rfl rfl (Yl.call callable94 (.cons rfl (.cons rfl (.cons rfl (.nil)))) (fun w' hw' => l17Who_spec ((Rd.arg hs) w' hw') ((Rd.arg hs2) w' hw') ((Rd.arg hs3) w' hw'))) ?_
  refine QOps.st rfl rfl (Yv.move rfl).yl ?_
  refine' QOps.and [_, _, _, _, _] _ (.tmp 16) rfl rfl rfl rfl rfl rfl (fun hg1 => ?_) ?_
  rotate_left
  · try replace hg1 := of_decide_eq_true hg1
    refine QOps.st rfl rfl (Yv.move rfl).yl ?_
    refine QOps.st rfl rfl (Yv.lenS el43s rfl).yl ?_
    refine QOps.st rfl rfl (Yv.move rfl).yl ?_
    refine QOps.st rfl rfl (Yv.lenS el42s rfl).yl ?_
    refine QOps.st rfl rfl (Yv.eqI rfl rfl).yl ?_
    exact QOps.nil rfl
  refine QOps.st rfl rfl (Yv.assign rfl).yl ?_
  refine QOps.nil ?_
  refine Run.ret ?_
  refine retQ.of (.inr rfl) rfl (.tmp rfl .nil) (fun w' hw' => ?_)
  refine ⟨?_, hw'.bel.below⟩
  refine retB_eq ?_
  exact plan_pre.symm
end Go.Proofs.Ytkkmmbogeeopaaa
