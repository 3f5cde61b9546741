/- Convoys: when they are valid, their length. Conditions: none. -/
import Derived.Test.YtfpglglolhlegaaCon1
namespace Go.Proofs.Ytfpglglolhlegaa
open Go.RowKit
theorem inside_spec {w : World} {n lo hi : Int} : Calls Try.prog 55 #[.int .i64 n, .int .i64 lo, .int .i64 hi] w (RetB w (.bool (inB n lo hi))) := by
  refine calls_of_run (vs := [_, _, _]) (L := [(0, _), (1, _), (2, _)]) (n := 15) (F := []) (H := []) Try.func55 rfl rfl rfl rfl (HOk.start _) ?_
  refine Run.seq ?_
  refine Run.quiet (by intro h; cases h) ?_
  refine QOps.st rfl rfl (Yv.assign rfl).yl ?_
  refine QOps.nil ?_
  refine Run.seq ?_
  refine Run.quiet (by intro h; cases h) ?_
  refine QOps.st rfl rfl (Yv.move rfl).yl ?_
  refine QOps.st rfl rfl (Yv.move rfl).yl ?_
  refine QOps.st rfl rfl (Yv.geq rfl rfl).yl ?_
  refine QOps.st rfl rfl (Yv.move rfl).yl ?_
  refine' QOps.and [_, _, _] _ (.tmp 13) rfl rfl rfl rfl rfl rfl (fun hg1 => ?_) ?_
  rotate_left
  · try replace hg1 := of_decide_eq_true hg1
    refine QOps.st rfl rfl (Yv.move rfl).yl ?_
    refine QOps.st rfl rfl (Yv.move rfl).yl ?_
    refine QOps.st rfl rfl (Yv.leq rfl rfl).yl ?_
    exact QOps.nil rfl
  refine QOps.st rfl rfl (Yv.assign rfl).yl ?_
  refine QOps.nil ?_
  refine Run.ret ?_
  refine retQ.of (.inr rfl) rfl (.tmp rfl .nil) (fun w' hw' => ?_)
  refine ⟨?_, hw'.bel.below⟩
  exact rfl

theorem l1In_spec {w : World} {n lo hi : Int} : Calls Try.prog 76 #[.int .i64 n, .int .i64 lo, .int .i64 hi] w (RetB w (.bool (inB n lo hi))) := by
  refine calls_of_run (vs := [_, _, _]) (L := [(0, _), (1, _), (2, _)]) (n := 15) (F := []) (H := []) Try.func76 rfl rfl rfl rfl (HOk.start _) ?_
  refine Run.seq ?_
  refine Run.quiet (by intro h; cases h) ?_
  refine QOps.st rfl rfl (Yv.assign rfl).yl ?_
  refine QOps.nil ?_
  refine Run.seq ?_
  refine Run.quiet (by intro h; cases h) ?_
  refine QOps.st rfl rfl (Yv.move rfl).yl ?_
  refine QOps.st rfl rfl (Yv.move rfl).yl ?_
  refine QOps.st rfl rfl (Yv.geq rfl rfl).yl ?_
  refine QOps.st rfl rfl (Yv.move rfl).yl ?_
  refine' QOps.and [_, _, _] _ (.tmp 13) rfl rfl rfl rfl rfl rfl (fun hg1 => ?_) ?_
  rotate_left
  · try replace hg1 := of_decide_eq_true hg1
    refine QOps.st rfl rfl (Yv.move rfl).yl ?_
    refine QOps.st rfl rfl (Yv.move rfl).yl ?_
    refine QOps.st rfl rfl (Yv.leq rfl rfl).yl ?_
    exact QOps.nil rfl
  refine QOps.st rfl rfl (Yv.assign rfl).yl ?_
  refine QOps.nil ?_
  refine Run.ret ?_
  refine retQ.of (.inr rfl) rfl (.tmp rfl .nil) (fun w' hw' => ?_)
  refine ⟨?_, hw'.bel.below⟩
  exact rfl

/-- A pusher of 1 to 3, one to eight barges of 1 to 6. -/
def validConvoy (p : Int) (l : List Int) : Bool := inB p 1 3 && inB l.length 1 8 && allTo l.length (fun k => inB (nth l k) 1 6)
theorem validConvoy_ok {p : Int} {l : List Int} (h : validConvoy p l = true) : 1 ≤ p ∧ p ≤ 3 ∧ 1 ≤ l.length ∧ l.length ≤ 8 ∧ ∀ k, k < l.length → 1 ≤ nth l k ∧ nth l k ≤ 6 := by
  simp only [validConvoy, Bool.and_eq_true, inB_iff, allTo_iff] at h
  exact ⟨by omega, by omega, by omega, by omega, h.2⟩
theorem l19Good_spec {w : World} {A : Option Addr} {c : Nat} {p : Int} {l : List Int} (hs : Sl w 1 A l.length c (l.flatMap intC)) :
    Calls Try.prog 54 #[.agg #[.int .i64 p, .slice A l.length c]] w (RetB w (.bool (validConvoy p l))) := by
  have hmx := Sl.lenle hs
  refine calls_of_run (vs := [_]) (L := [(0, _)]) (n := 27) (F := []) (H := []) Try.func54 rfl rfl rfl rfl (HOk.start _) ?_
  refine Run.seq ?_
  refine Run.ops ?_
  refine SOps.one rfl (One.box (cs := [_, _]) rfl rfl rfl (fun b1 => ?_))
  refine SOps.st rfl rfl (Yv.assign rfl).yl ?_
  refine SOps.nil ?_
  refine Run.seq ?_
  refine Run.seq ?_
  refine Run.quiet (by intro h; cases h) ?_
  refine QOps.st rfl rfl (Yv.assign rfl).yl ?_
  refine QOps.nil ?_
  refine Run.block ?_
  refine Run.loop (S := Nat) (fun s => match s with | k => k ≤ l.length ∧ ∀ i, i < k → inB (nth l i) 1 6 = true) (fun s => match s with | k => [(1, .pointer (some ⟨b1, 0, none⟩)), (3, .int .i64 (k : Int))]) (fun s => match s with | k => [.blk b1 27 [.int .i64 p, .slice A l.length c]]) (fun s => match s with | k => l.length - k) 0 ?_ (SubE.cons rfl (SubE.cons rfl (SubE.nil _))) (List.Sublist.refl _) ?_
  · exact ⟨by omega, fun i hi => by omega⟩
  · rintro k ⟨hk, hall⟩
    show Run _ _ _ _ _ [(1, .pointer (some ⟨b1, 0, none⟩)), (3, .int .i64 (k : Int))] [.blk b1 27 [.int .i64 p, .slice A l.length c]] _
    refine Run.seq ?_
    refine Run.seq ?_
    refine Run.quiet (by intro h; cases h) ?_
    refine QOps.st rfl rfl (Yv.move rfl).yl ?_
    refine QOps.st rfl rfl (Yv.fieldAddr fld27_1 rfl).yl ?_
    refine QOps.st rfl rfl (Yv.loadB (i := 0) lay22 rfl rfl rfl rfl).yl ?_
    refine QOps.st rfl rfl (Yv.lenS el22s rfl).yl ?_
    refine QOps.st rfl rfl (Yv.lss rfl rfl).yl ?_
    refine QOps.nil ?_
    refine Run.cond rfl (fun hc1 => ?_) (fun hc1 => ?_)
    · try replace hc1 := of_decide_eq_true hc1
      refine Run.skip ?_
      refine Run.seq ?_
      refine Run.block ?_
      refine Run.seq ?_
      refine Run.quiet (by intro h; cases h) ?_
      refine QOps.st rfl rfl (Yv.fieldAddr fld27_1 rfl).yl ?_
      refine QOps.st rfl rfl (Yv.loadB (i := 0) lay22 rfl rfl rfl rfl).yl ?_
      refine QOps.st rfl rfl (Yv.move rfl).yl ?_
      refine QOps.st rfl rfl (Yv.indexAddr k el22 rfl rfl rfl (Rd.arg hs) (by omega)).yl ?_
      refine QOps.st rfl rfl (Yv.loadE lay3 rfl intC_len (Rd.arg hs) (by first | omega | (simp; omega)) rfl).yl ?_
      refine QOps.st rfl rfl (Yl.call callable76 (.cons rfl (.cons rfl (.cons rfl (.nil)))) (fun w' hw' => l1In_spec)) ?_
      refine QOps.st rfl rfl (Yv.not rfl).yl ?_
      refine QOps.nil ?_
      refine Run.cond rfl (fun hc2 => ?_) (fun hc2 => ?_)
      · try replace hc2 := of_decide_eq_true hc2
        refine Run.seq ?_
        refine Run.quiet (by intro h; cases h) ?_
        refine QOps.st rfl rfl (Yv.assign rfl).yl ?_
        refine QOps.nil ?_
        refine Run.ret ?_
        refine retQ.of (.inr rfl) rfl (.tmp rfl .nil) (fun w' hw' => ?_)
        refine ⟨?_, hw'.bel.below⟩
        refine retB_eq ?_
        unfold validConvoy
        rw [allTo_false (i := k) (by omega) (by simpa using hc2)]; simp
      · try replace hc2 := of_decide_eq_false hc2
        refine Run.skip ?_
        refine Run.quiet (by intro h; cases h) ?_
        refine QOps.st rfl rfl (Yv.move rfl).yl ?_
        refine QOps.st rfl rfl (Yv.succN rfl rfl (by omega)).yl ?_
        refine QOps.st rfl rfl (Yv.assign rfl).yl ?_
        refine QOps.nil ?_
        refine ⟨k + 1, ?_, ?_, (SubE.cons rfl (SubE.cons rfl (SubE.nil _))), (List.Sublist.refl _)⟩
        · exact ⟨by omega, all_succ hall (by simpa using hc2)⟩
        · first | omega | (dsimp only; omega)
    · try replace hc1 := of_decide_eq_false hc1
      refine Run.exit ?_
      refine Run.seq ?_
      refine Run.quiet (by intro h; cases h) ?_
      refine QOps.st rfl rfl (Yv.fieldAddr fld27_0 rfl).yl ?_
      refine QOps.st rfl rfl (Yv.loadB (i := 0) lay3 rfl rfl rfl rfl).yl ?_
      refine QOps.st rfl rfl (Yl.call callable76 (.cons rfl (.cons rfl (.cons rfl (.nil)))) (fun w' hw' => l1In_spec)) ?_
      refine QOps.st rfl rfl (Yv.move rfl).yl ?_
      refine' QOps.and [_, _, _, _] _ (.tmp 25) rfl rfl rfl rfl rfl rfl (fun hg1 => ?_) ?_
      rotate_left
      · try replace hg1 := of_decide_eq_true hg1
        refine QOps.st rfl rfl (Yv.fieldAddr fld27_1 rfl).yl ?_
        refine QOps.st rfl rfl (Yv.loadB (i := 0) lay22 rfl rfl rfl rfl).yl ?_
        refine QOps.st rfl rfl (Yv.lenS el22s rfl).yl ?_
        refine QOps.st rfl rfl (Yl.call callable76 (.cons rfl (.cons rfl (.cons rfl (.nil)))) (fun w' hw' => l1In_spec)) ?_
        exact QOps.nil rfl
      refine QOps.st rfl rfl (Yv.assign rfl).yl ?_
      refine QOps.nil ?_
      refine Run.ret ?_
      refine retQ.of (.inr rfl) rfl (.tmp rfl .nil) (fun w' hw' => ?_)
      refine ⟨?_, hw'.bel.below⟩
      refine retB_eq ?_
      obtain rfl : k = l.length := by omega
      unfold validConvoy
      rw [allTo_iff.2 hall]; simp
theorem isValidConvoy1_spec {w : World} {n : Int} : Calls Try.prog 57 #[.int .i64 n] w (RetB w (.bool (!inB n 1 6))) := by
  refine calls_of_run (vs := [_]) (L := [(0, _)]) (n := 6) (F := []) (H := []) Try.func57 rfl rfl rfl rfl (HOk.start _) ?_
  refine Run.seq ?_
  refine Run.quiet (by intro h; cases h) ?_
  refine QOps.st rfl rfl (Yv.assign rfl).yl ?_
  refine QOps.nil ?_
  refine Run.seq ?_
  refine Run.quiet (by intro h; cases h) ?_
  refine QOps.st rfl rfl (Yv.move rfl).yl ?_
  refine QOps.st rfl rfl (Yl.call callable55 (.cons rfl (.cons rfl (.cons rfl (.nil)))) (fun w' hw' => inside_spec)) ?_
  refine QOps.st rfl rfl (Yv.not rfl).yl ?_
  refine QOps.st rfl rfl (Yv.assign rfl).yl ?_
  refine QOps.nil ?_
  refine Run.ret ?_
  refine retQ.of (.inr rfl) rfl (.tmp rfl .nil) (fun w' hw' => ?_)
  refine ⟨?_, hw'.bel.below⟩
  exact rfl
/-- The first number of a row that fits, of a function that is given. -/
theorem indexFunc_spec {w : World} {A : Option Addr} {c : Nat} {l : List Int} (q : Int → Bool) (hs : Sl w 1 A l.length c (l.flatMap intC))
    (hq : ∀ (w : World) (n : Int), Calls Try.prog 57 #[.int .i64 n] w (RetB w (.bool (q n)))) :
    Calls Try.prog 79 #[.slice A l.length c, .func (.func 57) #[] #[]] w (RetB w (.int .i64 (match firstTo l.length (fun k => q (nth l k)) with | some k => (k : Int) | none => -1))) := by
  have hmx := Sl.lenle hs
  refine calls_of_run (vs := [_, _]) (L := [(0, _), (1, _)]) (n := 19) (F := []) (H := []) Try.func79 rfl rfl rfl rfl (HOk.start _) ?_
  refine Run.seq ?_
  refine Run.quiet (by intro h; cases h) ?_
  refine QOps.st rfl rfl (Yv.assign rfl).yl ?_
  refine QOps.nil ?_
  refine Run.seq ?_
  refine Run.seq ?_
  refine Run.quiet (by intro h; cases h) ?_
  refine QOps.st rfl rfl (Yv.move rfl).yl ?_
  refine QOps.st rfl rfl (Yv.lenS el22s rfl).yl ?_
  refine QOps.st rfl rfl (Yv.move rfl).yl ?_
  refine QOps.nil ?_
  refine Run.block ?_
  refine Run.loop (S := Nat) (fun s => match s with | k => k ≤ l.length ∧ ∀ i, i < k → q (nth l i) = false) (fun s => match s with | k => [(0, .slice A l.length c), (1, .func (.func 57) #[] #[]), (7, .int .i64 (l.length : Int)), (8, .int .i64 (k : Int))]) (fun s => match s with | k => []) (fun s => match s with | k => l.length - k) 0 ?_ (SubE.cons rfl (SubE.cons rfl (SubE.cons rfl (SubE.cons rfl (SubE.nil _))))) (List.Sublist.refl _) ?_
  · exact ⟨by omega, fun i hi => by omega⟩
  · rintro k ⟨hk, hall⟩
    show Run _ _ _ _ _ [(0, .slice A l.length c), (1, .func (.func 57) #[] #[]), (7, .int .i64 (l.length : Int)), (8, .int .i64 (k : Int))] [] _
    refine Run.seq ?_
    refine Run.quiet (by intro h; cases h) ?_
    refine QOps.st rfl rfl (Yv.lss rfl rfl).yl ?_
    refine QOps.nil ?_
    refine Run.seq ?_
    refine Run.cond rfl (fun hc1 => ?_) (fun hc1 => ?_)
    · try replace hc1 := of_decide_eq_true hc1
      refine Run.skip ?_
      refine Run.seq ?_
      refine Run.block ?_
      refine Run.seq ?_
      refine Run.quiet (by intro h; cases h) ?_
      refine QOps.st rfl rfl (Yv.move rfl).yl ?_
      refine QOps.st rfl rfl (Yv.assign rfl).yl ?_
      refine QOps.nil ?_
      refine Run.seq ?_
      refine Run.quiet (by intro h; cases h) ?_
      refine QOps.st rfl rfl (Yv.move rfl).yl ?_
      refine QOps.st rfl rfl (Yv.move rfl).yl ?_
      refine QOps.st rfl rfl (Yv.move rfl).yl ?_
      refine QOps.st rfl rfl (Yv.indexAddr k el22 rfl rfl rfl (Rd.arg hs) (by omega)).yl ?_
      refine QOps.st rfl rfl (Yv.loadE lay3 rfl intC_len (Rd.arg hs) (by first | omega | (simp; omega)) rfl).yl ?_
      refine QOps.st rfl rfl (Yl.callV rfl callable57 (.cons rfl (.nil)) (fun w' hw' => hq _ _)) ?_
      refine QOps.nil ?_
      refine Run.cond rfl (fun hc2 => ?_) (fun hc2 => ?_)
      · try replace hc2 := of_decide_eq_true hc2
        refine Run.seq ?_
        refine Run.quiet (by intro h; cases h) ?_
        refine QOps.st rfl rfl (Yv.move rfl).yl ?_
        refine QOps.st rfl rfl (Yv.assign rfl).yl ?_
        refine QOps.nil ?_
        refine Run.ret ?_
        refine retQ.of (.inr rfl) rfl (.tmp rfl .nil) (fun w' hw' => ?_)
        refine ⟨?_, hw'.bel.below⟩
        refine retI_eq ?_
        rw [firstTo_some (k := k) (by omega) hc2 hall]
      · try replace hc2 := of_decide_eq_false hc2
        refine Run.skip ?_
        refine Run.quiet (by intro h; cases h) ?_
        refine QOps.st rfl rfl (Yv.succN rfl rfl (by omega)).yl ?_
        refine QOps.st rfl rfl (Yv.move rfl).yl ?_
        refine QOps.nil ?_
        refine ⟨k + 1, ?_, ?_, (SubE.cons rfl (SubE.cons rfl (SubE.cons rfl (SubE.cons rfl (SubE.nil _))))), (List.Sublist.refl _)⟩
        · exact ⟨by omega, all_succ hall hc2⟩
        · first | omega | (dsimp only; omega)
    · try replace hc1 := of_decide_eq_false hc1
      refine Run.exit ?_
      refine Run.seq ?_
      refine Run.quiet (by intro h; cases h) ?_
      refine QOps.st rfl rfl (Yv.assign rfl).yl ?_
      refine QOps.nil ?_
      refine Run.ret ?_
      refine retQ.of (.inr rfl) rfl (.tmp rfl .nil) (fun w' hw' => ?_)
      refine ⟨?_, hw'.bel.below⟩
      refine retI_eq ?_
      rw [firstTo_none (fun i hi => hall i (by omega))]
theorem containsFunc_spec {w : World} {A : Option Addr} {c : Nat} {l : List Int} (hs : Sl w 1 A l.length c (l.flatMap intC)) :
    Calls Try.prog 56 #[.slice A l.length c, .func (.func 57) #[] #[]] w (RetB w (.bool (!allTo l.length (fun k => inB (nth l k) 1 6)))) := by
  refine calls_of_run (vs := [_, _]) (L := [(0, _), (1, _)]) (n := 9) (F := []) (H := []) Try.func56 rfl rfl rfl rfl (HOk.start _) ?_
  refine Run.seq ?_
  refine Run.quiet (by intro h; cases h) ?_
  refine QOps.st rfl rfl (Yv.assign rfl).yl ?_
  refine QOps.nil ?_
  refine Run.seq ?_
  refine Run.quiet (by intro h; cases h) ?_
  refine QOps.st rfl rfl (Yv.move rfl).yl ?_
  refine QOps.st rfl rfl (Yv.move rfl).yl ?_
  refine QOps.st rfl rfl (Yl.call callable79 (.cons rfl (.cons rfl (.nil))) (fun w' hw' => indexFunc_spec (fun n => !inB n 1 6) ((Rd.arg hs) w' hw') (fun _ _ => isValidConvoy1_spec))) ?_
  refine QOps.st rfl rfl (Yv.geq rfl rfl).yl ?_
  refine QOps.st rfl rfl (Yv.assign rfl).yl ?_
  refine QOps.nil ?_
  refine Run.ret ?_
  refine retQ.of (.inr rfl) rfl (.tmp rfl .nil) (fun w' hw' => ?_)
  refine ⟨?_, hw'.bel.below⟩
  refine retB_eq ?_
  by_cases hall : ∀ i, i < l.length → inB (nth l i) 1 6 = true
  · rw [firstTo_none (fun i hi => by simp [hall i hi]), allTo_iff.2 hall]; rfl
  · obtain ⟨k, hk, hp, hlt⟩ := exists_first hall
    rw [firstTo_some (k := k) hk (by simp [hp]) (fun i hi => by simp [hlt i hi]), allTo_false hk hp]; simp
theorem IsValidConvoy_spec {w : World} {A : Option Addr} {c : Nat} {p : Int} {l : List Int} (hs : Sl w 1 A l.length c (l.flatMap intC)) :
    Calls Try.prog 18 #[.agg #[.int .i64 p, .slice A l.length c]] w (RetB w (.bool (validConvoy p l))) := by
  refine calls_of_run (vs := [_]) (L := [(0, _)]) (n := 18) (F := []) (H := []) Try.func18 rfl rfl rfl rfl (HOk.start _) ?_
  refine Run.seq ?_
  refine Run.ops ?_
  refine SOps.one rfl (One.box (cs := [_, _]) rfl rfl rfl (fun b1 => ?_))
  refine SOps.st rfl rfl (Yv.assign rfl).yl ?_
  refine SOps.nil ?_
  refine Run.seq ?_
  refine Run.quiet (by intro h; cases h) ?_
  refine QOps.st rfl rfl (Yv.fieldAddr fld27_0 rfl).yl ?_
  refine QOps.st rfl rfl (Yv.loadB (i := 0) lay3 rfl rfl rfl rfl).yl ?_
  refine QOps.st rfl rfl (Yl.call callable55 (.cons rfl (.cons rfl (.cons rfl (.nil)))) (fun w' hw' => inside_spec)) ?_
  refine QOps.st rfl rfl (Yv.move rfl).yl ?_
  refine' QOps.and [_, _, _, _] _ (.tmp 10) rfl rfl rfl rfl rfl rfl (fun hg1 => ?_) ?_
  rotate_left
  · try replace hg1 := of_decide_eq_true hg1
    refine QOps.st rfl rfl (Yv.fieldAddr fld27_1 rfl).yl ?_
    refine QOps.st rfl rfl (Yv.loadB (i := 0) lay22 rfl rfl rfl rfl).yl ?_
    refine QOps.st rfl rfl (Yv.lenS el22s rfl).yl ?_
    refine QOps.st rfl rfl (Yl.call callable55 (.cons rfl (.cons rfl (.cons rfl (.nil)))) (fun w' hw' => inside_spec)) ?_
    exact QOps.nil rfl
  refine QOps.st rfl rfl (Yv.move rfl).yl ?_
  refine' QOps.and [_, _, _, _] _ (.tmp 16) rfl rfl rfl rfl rfl rfl (fun hg2 => ?_) ?_
  rotate_left
  · try replace hg2 := of_decide_eq_true hg2
    refine QOps.st rfl rfl (Yv.fieldAddr fld27_1 rfl).yl ?_
    refine QOps.st rfl rfl (Yv.loadB (i := 0) lay22 rfl rfl rfl rfl).yl ?_
    refine QOps.st rfl rfl (Yl.call callable56 (.cons rfl (.cons rfl (.nil))) (fun w' hw' => containsFunc_spec ((Rd.arg hs) w' hw'))) ?_
    refine QOps.st rfl rfl (Yv.not rfl).yl ?_
    exact QOps.nil rfl
  refine QOps.st rfl rfl (Yv.assign rfl).yl ?_
  refine QOps.nil ?_
  refine Run.ret ?_
  refine retQ.of (.inr rfl) rfl (.tmp rfl .nil) (fun w' hw' => ?_)
  refine ⟨?_, hw'.bel.below⟩
  refine retB_eq ?_
  unfold validConvoy
  rw [Bool.not_not]
theorem sIsValidConvoy_spec {w : World} {A : Option Addr} {c : Nat} {p : Int} {l : List Int} (hs : Sl w 1 A l.length c (l.flatMap intC)) :
    Calls Try.prog 16 #[.agg #[.int .i64 p, .slice A l.length c]] w (RetB w (.bool (validConvoy p l))) := by
  refine calls_of_run (vs := [_]) (L := [(0, _)]) (n := 5) (F := []) (H := []) Try.func16 rfl rfl rfl rfl (HOk.start _) ?_
  refine Run.seq ?_
  refine Run.ops ?_
  refine SOps.one rfl (One.box (cs := [_, _]) rfl rfl rfl (fun b1 => ?_))
  refine SOps.st rfl rfl (Yv.assign rfl).yl ?_
  refine SOps.nil ?_
  refine Run.seq ?_
  refine Run.quiet (by intro h; cases h) ?_
  refine QOps.st rfl rfl (Yv.loadBs (i := 0) lay27 rfl rfl rfl rfl).yl ?_
  refine QOps.st rfl rfl (Yl.call callable54 (.cons rfl (.nil)) (fun w' hw' => l19Good_spec ((Rd.arg hs) w' hw'))) ?_
  refine QOps.st rfl rfl (Yv.assign rfl).yl ?_
  refine QOps.nil ?_
  refine Run.ret ?_
  refine retQ.of (.inr rfl) rfl (.tmp rfl .nil) (fun w' hw' => ?_)
  refine ⟨?_, hw'.bel.below⟩
  exact rfl
/-- The sum of the first n numbers. -/
def sumTo (l : List Int) : Nat → Int
  | 0 => 0
  | k + 1 => sumTo l k + nth l k
theorem sumTo_bnd {l : List Int} (h : ∀ k, k < l.length → 1 ≤ nth l k ∧ nth l k ≤ 6) : ∀ {n : Nat}, n ≤ l.length → (n : Int) ≤ sumTo l n ∧ sumTo l n ≤ 6 * (n : Int)
  | 0, _ => ⟨by simp [sumTo], by simp [sumTo]⟩
  | n + 1, hn => by
    have h1 := sumTo_bnd h (n := n) (by omega)
    have h2 := h n (by omega)
    simp only [sumTo]
    omega
theorem sumInts_spec {w : World} {A : Option Addr} {c : Nat} {l : List Int} (hs : Sl w 1 A l.length c (l.flatMap intC)) (hl : l.length ≤ 1000) (hb : ∀ k, k < l.length → 1 ≤ nth l k ∧ nth l k ≤ 6) :
    Calls Try.prog 59 #[.slice A l.length c] w (RetB w (.int .i64 (sumTo l l.length))) := by
  refine calls_of_run (vs := [_]) (L := [(0, _)]) (n := 17) (F := []) (H := []) Try.func59 rfl rfl rfl rfl (HOk.start _) ?_
  refine Run.seq ?_
  refine Run.quiet (by intro h; cases h) ?_
  refine QOps.st rfl rfl (Yv.assign rfl).yl ?_
  refine QOps.nil ?_
  refine Run.seq ?_
  refine Run.quiet (by intro h; cases h) ?_
  refine QOps.st rfl rfl (Yv.assign rfl).yl ?_
  refine QOps.nil ?_
  refine Run.seq ?_
  refine Run.seq ?_
  refine Run.quiet (by intro h; cases h) ?_
  refine QOps.st rfl rfl (Yv.move rfl).yl ?_
  refine QOps.st rfl rfl (Yv.lenS el22s rfl).yl ?_
  refine QOps.st rfl rfl (Yv.move rfl).yl ?_
  refine QOps.nil ?_
  refine Run.block ?_
  refine Run.loop (S := Nat) (fun s => match s with | k => k ≤ l.length) (fun s => match s with | k => [(0, .slice A l.length c), (6, .slice A l.length c), (7, .int .i64 (l.length : Int)), (3, .int .i64 (sumTo l k)), (8, .int .i64 (k : Int))]) (fun s => match s with | k => []) (fun s => match s with | k => l.length - k) 0 ?_ (SubE.cons rfl (SubE.cons rfl (SubE.cons rfl (SubE.cons rfl (SubE.cons rfl (SubE.nil _)))))) (List.Sublist.refl _) ?_
  · exact Nat.zero_le _
  · rintro k hk
    show Run _ _ _ _ _ [(0, .slice A l.length c), (6, .slice A l.length c), (7, .int .i64 (l.length : Int)), (3, .int .i64 (sumTo l k)), (8, .int .i64 (k : Int))] [] _
    have hsb := sumTo_bnd hb (n := k) hk
    have hbk := hb k
    refine Run.seq ?_
    refine Run.quiet (by intro h; cases h) ?_
    refine QOps.st rfl rfl (Yv.lss rfl rfl).yl ?_
    refine QOps.nil ?_
    refine Run.seq ?_
    refine Run.cond rfl (fun hc1 => ?_) (fun hc1 => ?_)
    · try replace hc1 := of_decide_eq_true hc1
      refine Run.skip ?_
      refine Run.seq ?_
      refine Run.block ?_
      refine Run.seq ?_
      refine Run.quiet (by intro h; cases h) ?_
      refine QOps.st rfl rfl (Yv.indexAddr k el22 rfl rfl rfl (Rd.arg hs) (by omega)).yl ?_
      refine QOps.st rfl rfl (Yv.loadE lay3 rfl intC_len (Rd.arg hs) (by first | omega | (simp; omega)) rfl).yl ?_
      refine QOps.st rfl rfl (Yv.assign rfl).yl ?_
      refine QOps.nil ?_
      refine Run.quiet (by intro h; cases h) ?_
      refine QOps.st rfl rfl (Yv.move rfl).yl ?_
      refine QOps.st rfl rfl (Yv.move rfl).yl ?_
      refine QOps.st rfl rfl (Yv.add rfl rfl (by omega)).yl ?_
      refine QOps.st rfl rfl (Yv.assign rfl).yl ?_
      refine QOps.nil ?_
      refine Run.quiet (by intro h; cases h) ?_
      refine QOps.st rfl rfl (Yv.succN rfl rfl (by omega)).yl ?_
      refine QOps.st rfl rfl (Yv.move rfl).yl ?_
      refine QOps.nil ?_
      refine ⟨k + 1, ?_, ?_, (SubE.cons rfl (SubE.cons rfl (SubE.cons rfl (SubE.cons rfl (SubE.cons rfl (SubE.nil _)))))), (List.Sublist.refl _)⟩
      · show k + 1 ≤ _; omega
      · first | omega | (dsimp only; omega)
    · try replace hc1 := of_decide_eq_false hc1
      refine Run.exit ?_
      refine Run.seq ?_
      refine Run.quiet (by intro h; cases h) ?_
      refine QOps.st rfl rfl (Yv.move rfl).yl ?_
      refine QOps.st rfl rfl (Yv.assign rfl).yl ?_
      refine QOps.nil ?_
      refine Run.ret ?_
      obtain rfl : k = l.length := by omega
      refine retQ.of (.inr rfl) rfl (.tmp rfl .nil) (fun w' hw' => ?_)
      refine ⟨?_, hw'.bel.below⟩
      exact rfl
theorem l19Sum_spec {w : World} {A : Option Addr} {c : Nat} {p : Int} {l : List Int} {lo hi : Nat} (hs : Sl w 1 A l.length c (l.flatMap intC)) (hl : l.length ≤ 1000) (hp : 1 ≤ p ∧ p ≤ 3) (hb : ∀ k, k < l.length → 1 ≤ nth l k ∧ nth l k ≤ 6) (hlo : lo ≤ hi) (hhi : hi ≤ l.length) :
    Calls Try.prog 58 #[.agg #[.int .i64 p, .slice A l.length c], .int .i64 (lo : Int), .int .i64 (hi : Int)] w (RetB w (.int .i64 (p + (sumTo l hi - sumTo l lo)))) := by
  refine calls_of_run (vs := [_, _, _]) (L := [(0, _), (1, _), (2, _)]) (n := 25) (F := []) (H := []) Try.func58 rfl rfl rfl rfl (HOk.start _) ?_
  refine Run.seq ?_
  refine Run.ops ?_
  refine SOps.one rfl (One.box (cs := [_, _]) rfl rfl rfl (fun b1 => ?_))
  refine SOps.st rfl rfl (Yv.assign rfl).yl ?_
  refine SOps.nil ?_
  refine Run.seq ?_
  refine Run.quiet (by intro h; cases h) ?_
  refine QOps.st rfl rfl (Yv.fieldAddr fld27_0 rfl).yl ?_
  refine QOps.st rfl rfl (Yv.loadB (i := 0) lay3 rfl rfl rfl rfl).yl ?_
  refine QOps.st rfl rfl (Yv.assign rfl).yl ?_
  refine QOps.nil ?_
  refine Run.seq ?_
  refine Run.seq ?_
  refine Run.quiet (by intro h; cases h) ?_
  refine QOps.st rfl rfl (Yv.move rfl).yl ?_
  refine QOps.st rfl rfl (Yv.assign rfl).yl ?_
  refine QOps.nil ?_
  refine Run.block ?_
  refine Run.loop (S := Nat) (fun s => match s with | k => lo ≤ k ∧ k ≤ hi) (fun s => match s with | k => [(3, .pointer (some ⟨b1, 0, none⟩)), (2, .int .i64 (hi : Int)), (7, .int .i64 (p + (sumTo l k - sumTo l lo))), (8, .int .i64 (k : Int))]) (fun s => match s with | k => [.blk b1 27 [.int .i64 p, .slice A l.length c]]) (fun s => match s with | k => hi - k) lo ?_ (SubE.cons rfl (SubE.cons rfl (SubE.cons (congrArg some (by simp)) (SubE.cons rfl (SubE.nil _))))) (List.Sublist.refl _) ?_
  · exact ⟨Nat.le_refl _, hlo⟩
  · rintro k ⟨hk0, hk⟩
    show Run _ _ _ _ _ [(3, .pointer (some ⟨b1, 0, none⟩)), (2, .int .i64 (hi : Int)), (7, .int .i64 (p + (sumTo l k - sumTo l lo))), (8, .int .i64 (k : Int))] [.blk b1 27 [.int .i64 p, .slice A l.length c]] _
    have hsb := sumTo_bnd hb (n := k) (by omega)
    have hsl := sumTo_bnd hb (n := lo) (by omega)
    have hbk := hb k
    refine Run.seq ?_
    refine Run.seq ?_
    refine Run.quiet (by intro h; cases h) ?_
    refine QOps.st rfl rfl (Yv.move rfl).yl ?_
    refine QOps.st rfl rfl (Yv.move rfl).yl ?_
    refine QOps.st rfl rfl (Yv.lss rfl rfl).yl ?_
    refine QOps.nil ?_
    refine Run.cond rfl (fun hc1 => ?_) (fun hc1 => ?_)
    · try replace hc1 := of_decide_eq_true hc1
      refine Run.skip ?_
      refine Run.seq ?_
      refine Run.block ?_
      refine Run.quiet (by intro h; cases h) ?_
      refine QOps.st rfl rfl (Yv.move rfl).yl ?_
      refine QOps.st rfl rfl (Yv.fieldAddr fld27_1 rfl).yl ?_
      refine QOps.st rfl rfl (Yv.loadB (i := 0) lay22 rfl rfl rfl rfl).yl ?_
      refine QOps.st rfl rfl (Yv.move rfl).yl ?_
      refine QOps.st rfl rfl (Yv.indexAddr k el22 rfl rfl rfl (Rd.arg hs) (by omega)).yl ?_
      refine QOps.st rfl rfl (Yv.loadE lay3 rfl intC_len (Rd.arg hs) (by first | omega | (simp; omega)) rfl).yl ?_
      refine QOps.st rfl rfl (Yv.add rfl rfl (by omega)).yl ?_
      refine QOps.st rfl rfl (Yv.assign rfl).yl ?_
      refine QOps.nil ?_
      refine Run.quiet (by intro h; cases h) ?_
      refine QOps.st rfl rfl (Yv.move rfl).yl ?_
      refine QOps.st rfl rfl (Yv.succN rfl rfl (by omega)).yl ?_
      refine QOps.st rfl rfl (Yv.assign rfl).yl ?_
      refine QOps.nil ?_
      refine ⟨k + 1, ?_, ?_, (SubE.cons rfl (SubE.cons rfl (SubE.cons (congrArg some (by simp only [sumTo]; congr 1; omega)) (SubE.cons rfl (SubE.nil _))))), (List.Sublist.refl _)⟩
      · exact ⟨by omega, by omega⟩
      · first | omega | (dsimp only; omega)
    · try replace hc1 := of_decide_eq_false hc1
      refine Run.exit ?_
      refine Run.seq ?_
      refine Run.quiet (by intro h; cases h) ?_
      refine QOps.st rfl rfl (Yv.move rfl).yl ?_
      refine QOps.st rfl rfl (Yv.assign rfl).yl ?_
      refine QOps.nil ?_
      refine Run.ret ?_
      obtain rfl : k = hi := by omega
      refine retQ.of (.inr rfl) rfl (.tmp rfl .nil) (fun w' hw' => ?_)
      refine ⟨?_, hw'.bel.below⟩
      exact rfl
def convoyLength (p : Int) (l : List Int) : Int × Bool := if validConvoy p l = true then (p + sumTo l l.length, true) else (0, false)
theorem ConvoyLength_spec {w : World} {A : Option Addr} {c : Nat} {p : Int} {l : List Int} (hs : Sl w 1 A l.length c (l.flatMap intC)) :
    Calls Try.prog 21 #[.agg #[.int .i64 p, .slice A l.length c]] w (RetB w (.tuple #[.int .i64 (convoyLength p l).1, .bool (convoyLength p l).2])) := by
  refine calls_of_run (vs := [_]) (L := [(0, _)]) (n := 13) (F := []) (H := []) Try.func21 rfl rfl rfl rfl (HOk.start _) ?_
  refine Run.seq ?_
  refine Run.ops ?_
  refine SOps.one rfl (One.box (cs := [_, _]) rfl rfl rfl (fun b1 => ?_))
  refine SOps.st rfl rfl (Yv.assign rfl).yl ?_
  refine SOps.st rfl rfl (Yv.assign rfl).yl ?_
  refine SOps.nil ?_
  refine Run.seq ?_
  refine Run.seq ?_
  refine Run.quiet (by intro h; cases h) ?_
  refine QOps.st rfl rfl (Yv.loadBs (i := 0) lay27 rfl rfl rfl rfl).yl ?_
  refine QOps.st rfl rfl (Yl.call callable18 (.cons rfl (.nil)) (fun w' hw' => IsValidConvoy_spec ((Rd.arg hs) w' hw'))) ?_
  refine QOps.st rfl rfl (Yv.not rfl).yl ?_
  refine QOps.nil ?_
  refine Run.cond rfl (fun hc1 => ?_) (fun hc1 => ?_)
  · try replace hc1 := of_decide_eq_true hc1
    have hn : ¬ validConvoy p l = true := by simpa using hc1
    refine Run.seq ?_
    refine Run.quiet (by intro h; cases h) ?_
    refine QOps.st rfl rfl (Yv.assign rfl).yl ?_
    refine QOps.st rfl rfl (Yv.assign rfl).yl ?_
    refine QOps.nil ?_
    refine Run.ret ?_
    refine retQ.of (.inr rfl) rfl (.tmp rfl (.tmp rfl .nil)) (fun w' hw' => ?_)
    refine ⟨?_, hw'.bel.below⟩
    unfold convoyLength; rw [if_neg hn]; rfl
  · try replace hc1 := of_decide_eq_false hc1
    have hy : validConvoy p l = true := by simpa using hc1
    obtain ⟨hp1, hp2, hl1, hl2, hbb⟩ := validConvoy_ok hy
    have hsb := sumTo_bnd hbb (Nat.le_refl _)
    refine Run.skip ?_
    refine Run.seq ?_
    refine Run.quiet (fun _ => ⟨by kernel_rfl, by kernel_rfl⟩) ?_
    refine QOps.st rfl rfl (Yv.fieldAddr fld27_0 rfl).yl ?_
    refine QOps.st rfl rfl (Yv.loadB (i := 0) lay3 rfl rfl rfl rfl).yl ?_
    refine QOps.st rfl rfl (Yv.fieldAddr fld27_1 rfl).yl ?_
    refine QOps.st rfl rfl (Yv.loadB (i := 0) lay22 rfl rfl rfl rfl).yl ?_
    refine QOps.st rfl rfl (Yl.call callable59 (.cons rfl (.nil)) (fun w' hw' => sumInts_spec ((Rd.arg hs) w' hw') (by omega) (by assumption))) ?_
    refine QOps.st rfl rfl (Yv.add rfl rfl (by omega)).yl ?_
    refine QOps.st rfl rfl (Yv.assign rfl).yl ?_
    refine QOps.st rfl rfl (Yv.assign rfl).yl ?_
    refine QOps.nil ?_
    refine Run.ret ?_
    refine retQ.of (.inr rfl) rfl (.tmp rfl (.tmp rfl .nil)) (fun w' hw' => ?_)
    refine ⟨?_, hw'.bel.below⟩
    unfold convoyLength; rw [if_pos hy]; first | rfl | (simp [sumTo]; rfl)
theorem sConvoyLength_spec {w : World} {A : Option Addr} {c : Nat} {p : Int} {l : List Int} (hs : Sl w 1 A l.length c (l.flatMap intC)) :
    Calls Try.prog 20 #[.agg #[.int .i64 p, .slice A l.length c]] w (RetB w (.tuple #[.int .i64 (convoyLength p l).1, .bool (convoyLength p l).2])) := by
  refine calls_of_run (vs := [_]) (L := [(0, _)]) (n := 12) (F := []) (H := []) Try.func20 rfl rfl rfl rfl (HOk.start _) ?_
  refine Run.seq ?_
  refine Run.ops ?_
  refine SOps.one rfl (One.box (cs := [_, _]) rfl rfl rfl (fun b1 => ?_))
  refine SOps.st rfl rfl (Yv.assign rfl).yl ?_
  refine SOps.st rfl rfl (Yv.assign rfl).yl ?_
  refine SOps.nil ?_
  refine Run.seq ?_
  refine Run.seq ?_
  refine Run.quiet (by intro h; cases h) ?_
  refine QOps.st rfl rfl (Yv.loadBs (i := 0) lay27 rfl rfl rfl rfl).yl ?_
  refine QOps.st rfl rfl (Yl.call callable54 (.cons rfl (.nil)) (fun w' hw' => l19Good_spec ((Rd.arg hs) w' hw'))) ?_
  refine QOps.st rfl rfl (Yv.not rfl).yl ?_
  refine QOps.nil ?_
  refine Run.cond rfl (fun hc1 => ?_) (fun hc1 => ?_)
  · try replace hc1 := of_decide_eq_true hc1
    have hn : ¬ validConvoy p l = true := by simpa using hc1
    refine Run.seq ?_
    refine Run.quiet (by intro h; cases h) ?_
    refine QOps.st rfl rfl (Yv.assign rfl).yl ?_
    refine QOps.st rfl rfl (Yv.assign rfl).yl ?_
    refine QOps.nil ?_
    refine Run.ret ?_
    refine retQ.of (.inr rfl) rfl (.tmp rfl (.tmp rfl .nil)) (fun w' hw' => ?_)
    refine ⟨?_, hw'.bel.below⟩
    unfold convoyLength; rw [if_neg hn]; rfl
  · try replace hc1 := of_decide_eq_false hc1
    have hy : validConvoy p l = true := by simpa using hc1
    obtain ⟨hp1, hp2, hl1, hl2, hbb⟩ := validConvoy_ok hy
    have hsb := sumTo_bnd hbb (Nat.le_refl _)
    refine Run.skip ?_
    refine Run.seq ?_
    refine Run.quiet (by intro h; cases h) ?_
    refine QOps.st rfl rfl (Yv.loadBs (i := 0) lay27 rfl rfl rfl rfl).yl ?_
    refine QOps.st rfl rfl (Yv.fieldAddr fld27_1 rfl).yl ?_
    refine QOps.st rfl rfl (Yv.loadB (i := 0) lay22 rfl rfl rfl rfl).yl ?_
    refine QOps.st rfl rfl (Yv.lenS el22s rfl).yl ?_
    refine QOps.st rfl rfl (Yl.call callable58 (.cons rfl (.cons rfl (.cons rfl (.nil)))) (fun w' hw' => l19Sum_spec ((Rd.arg hs) w' hw') (by omega) (by omega) (by assumption) (by first | omega | exact Nat.zero_le _) (by omega))) ?_
    refine QOps.st rfl rfl (Yv.assign rfl).yl ?_
    refine QOps.st rfl rfl (Yv.assign rfl).yl ?_
    refine QOps.nil ?_
    refine Run.ret ?_
    refine retQ.of (.inr rfl) rfl (.tmp rfl (.tmp rfl .nil)) (fun w' hw' => ?_)
    refine ⟨?_, hw'.bel.below⟩
    unfold convoyLength; rw [if_pos hy]; first | rfl | (simp [sumTo]; rfl)

theorem FnExactIsValidConvoy_spec {w : World} {A : Option Addr} {c : Nat} {p : Int} {l : List Int} (hs : Sl w 1 A l.length c (l.flatMap intC)) (hb : 8 * l.length ≤ 281474976710656) :
    Calls Try.prog 3 #[.agg #[.int .i64 p, .slice A l.length c]] w (RetB w (.bool true)) := by
  refine calls_of_run (vs := [_]) (L := [(0, _)]) (n := 27) (F := []) (H := []) Try.func3 rfl rfl rfl rfl (HOk.start _) ?_
  refine Run.seq ?_
  refine Run.ops ?_
  refine SOps.one rfl (One.box (cs := [_, _]) rfl rfl rfl (fun b1 => ?_))
  refine SOps.st rfl rfl (Yv.assign rfl).yl ?_
  refine SOps.nil ?_
  refine Run.seq ?_
  refine Run.quiet (by intro h; cases h) ?_
  refine QOps.st rfl rfl (Yv.assign rfl).yl ?_
  refine QOps.nil ?_
  refine Run.seq ?_
  refine Run.quiet (by intro h; cases h) ?_
  refine QOps.st rfl rfl (Yv.loadBs (i := 0) lay24 rfl rfl rfl rfl).yl ?_
  refine QOps.st rfl rfl (Yv.move rfl).yl ?_
  refine QOps.st rfl rfl (Yl.call callable15 (.cons rfl (.cons rfl (.nil))) (fun w' hw' => szConvoy_spec (by omega) (by omega) (by omega))) ?_
  refine QOps.st rfl rfl (Yv.assign rfl).yl ?_
  refine QOps.nil ?_
  refine Run.seq ?_
  refine Run.seq ?_
  refine Run.quiet (by intro h; cases h) ?_
  refine QOps.st rfl rfl (Yv.move rfl).yl ?_
  refine QOps.st rfl rfl (Yv.lss rfl rfl).yl ?_
  refine QOps.nil ?_
  refine Run.cond rfl (fun hc1 => ?_) (fun hc1 => ?_)
  · try replace hc1 := of_decide_eq_true hc1
    refine Run.seq ?_
    refine Run.quiet (by intro h; cases h) ?_
    refine QOps.st rfl rfl (Yv.assign rfl).yl ?_
    refine QOps.nil ?_
    refine Run.ret ?_
    refine retQ.of (.inr rfl) rfl (.tmp rfl .nil) (fun w' hw' => ?_)
    refine ⟨?_, hw'.bel.below⟩
    exact rfl
  · try replace hc1 := of_decide_eq_false hc1
    have hn1 : l.length ≤ 1048576 := by split at hc1 <;> omega
    refine Run.skip ?_
    refine Run.seq ?_
    refine Run.ops ?_
    refine SOps.st rfl rfl (Yv.loadBs (i := 0) lay24 rfl rfl rfl rfl).yl ?_
    refine SOps.one rfl (One.callRow rfl callable17 (.cons rfl (.nil)) (fun w' hw' => toConvoy_spec ((Rd.arg hs) w' hw') (by omega)) (fun A1 c1 => ?_))
    refine SOps.st rfl rfl (Yl.call callable16 (.cons rfl (.nil)) (fun w' hw' => sIsValidConvoy_spec ((Rd.row (i := 0) rfl) w' hw'))) ?_
    refine SOps.st rfl rfl (Yv.assign rfl).yl ?_
    refine SOps.nil ?_
    refine Run.seq ?_
    refine Run.ops ?_
    refine SOps.st rfl rfl (Yv.loadBs (i := 1) lay24 rfl rfl rfl rfl).yl ?_
    refine SOps.one rfl (One.callRow rfl callable17 (.cons rfl (.nil)) (fun w' hw' => toConvoy_spec ((Rd.arg hs) w' hw') (by omega)) (fun A2 c2 => ?_))
    refine SOps.one rfl (One.alloc rfl zero27 (fun b2 => ?_))
    refine SOps.one rfl (One.store (i := 0) (off := 0) (vs := [_, _]) (cs' := [_, _]) (H' := [_, _, _, _]) lay27 rfl rfl rfl rfl rfl rfl rfl rfl rfl rfl ?_)
    refine SOps.nil ?_
    refine Run.seq ?_
    refine Run.quiet (by intro h; cases h) ?_
    refine QOps.st rfl rfl (Yv.loadBs (i := 0) lay27 rfl rfl rfl rfl).yl ?_
    refine QOps.st rfl rfl (Yl.call callable18 (.cons rfl (.nil)) (fun w' hw' => IsValidConvoy_spec ((Rd.row (i := 1) rfl) w' hw'))) ?_
    refine QOps.st rfl rfl (Yv.assign rfl).yl ?_
    refine QOps.nil ?_
    refine Run.seq ?_
    refine Run.seq ?_
    refine Run.quiet (by intro h; cases h) ?_
    refine QOps.st rfl rfl (Yv.move rfl).yl ?_
    refine QOps.st rfl rfl (Yv.move rfl).yl ?_
    refine QOps.st rfl rfl (Yv.neB bool4 rfl rfl).yl ?_
    refine QOps.nil ?_
    refine Run.cond rfl (fun hc2 => ?_) (fun hc2 => ?_)
    · exfalso
      simp at hc2
    · try replace hc2 := of_decide_eq_false hc2
      refine Run.skip ?_
      refine Run.seq ?_
      refine Run.seq ?_
      refine Run.draws (fun H => H) (m := 5) (listed := #[false, false, false, false, false]) (by kernel_rfl) rfl rfl ?_
      refine DOps.take (listed' := #[true, false, false, false, false]) 0 rfl (by kernel_rfl) rfl (List.Sublist.refl _) rfl rfl (Yv.loadBs (i := 0) lay27 rfl rfl rfl rfl) ?_
      refine DOps.take (listed' := #[true, true, false, false, false]) 1 rfl (by kernel_rfl) rfl (List.Sublist.refl _) rfl rfl (Yv.loadBs (i := 3) lay24 rfl rfl rfl rfl) ?_
      refine DOps.only (listed' := #[true, true, true, false, false]) 2 rfl (by kernel_rfl) rfl rfl ?_
      refine One.callRow rfl callable17 (.cons rfl (.nil)) (fun w' hw' => toConvoy_spec ((Rd.arg hs) w' hw') (by omega)) (fun A3 c3 => ?_)
      refine ⟨(List.Sublist.cons _ (List.Sublist.refl _)), ?_⟩
      refine DOps.only (listed' := #[true, true, true, true, false]) 3 rfl (by kernel_rfl) rfl rfl ?_
      refine One.st rfl (Yl.call callable19 (.cons rfl (.cons rfl (.nil))) (fun w' hw' => eqConvoy_spec ((Rd.row (i := 2) rfl) w' hw') ((Rd.row (i := 0) rfl) w' hw'))) ?_
      refine ⟨(List.Sublist.cons _ (List.Sublist.refl _)), ?_⟩
      refine DOps.take (listed' := #[true, true, true, true, true]) 4 rfl (by kernel_rfl) rfl (List.Sublist.cons _ (List.Sublist.refl _)) rfl rfl (Yv.not rfl) ?_
      refine DOps.done (by kernel_rfl) ?_
      refine Run.cond rfl (fun hc3 => ?_) (fun hc3 => ?_)
      · exfalso
        simp at hc3
      · try replace hc3 := of_decide_eq_false hc3
        refine Run.skip ?_
        refine Run.seq ?_
        refine Run.quiet (by intro h; cases h) ?_
        refine QOps.st rfl rfl (Yv.assign rfl).yl ?_
        refine QOps.nil ?_
        refine Run.ret ?_
        refine retQ.of (.inr rfl) rfl (.tmp rfl .nil) (fun w' hw' => ?_)
        refine ⟨?_, hw'.bel.below⟩
        exact rfl

theorem FnExactConvoyLength_spec {w : World} {A : Option Addr} {c : Nat} {p : Int} {l : List Int} (hs : Sl w 1 A l.length c (l.flatMap intC)) (hb : 8 * l.length ≤ 281474976710656) :
    Calls Try.prog 4 #[.agg #[.int .i64 p, .slice A l.length c]] w (RetB w (.bool true)) := by
  refine calls_of_run (vs := [_]) (L := [(0, _)]) (n := 40) (F := []) (H := []) Try.func4 rfl rfl rfl rfl (HOk.start _) ?_
  refine Run.seq ?_
  refine Run.ops ?_
  refine SOps.one rfl (One.box (cs := [_, _]) rfl rfl rfl (fun b1 => ?_))
  refine SOps.st rfl rfl (Yv.assign rfl).yl ?_
  refine SOps.nil ?_
  refine Run.seq ?_
  refine Run.quiet (by intro h; cases h) ?_
  refine QOps.st rfl rfl (Yv.assign rfl).yl ?_
  refine QOps.nil ?_
  refine Run.seq ?_
  refine Run.quiet (by intro h; cases h) ?_
  refine QOps.st rfl rfl (Yv.loadBs (i := 0) lay24 rfl rfl rfl rfl).yl ?_
  refine QOps.st rfl rfl (Yv.move rfl).yl ?_
  refine QOps.st rfl rfl (Yl.call callable15 (.cons rfl (.cons rfl (.nil))) (fun w' hw' => szConvoy_spec (by omega) (by omega) (by omega))) ?_
  refine QOps.st rfl rfl (Yv.assign rfl).yl ?_
  refine QOps.nil ?_
  refine Run.seq ?_
  refine Run.seq ?_
  refine Run.quiet (by intro h; cases h) ?_
  refine QOps.st rfl rfl (Yv.move rfl).yl ?_
  refine QOps.st rfl rfl (Yv.lss rfl rfl).yl ?_
  refine QOps.nil ?_
  refine Run.cond rfl (fun hc1 => ?_) (fun hc1 => ?_)
  · try replace hc1 := of_decide_eq_true hc1
    refine Run.seq ?_
    refine Run.quiet (by intro h; cases h) ?_
    refine QOps.st rfl rfl (Yv.assign rfl).yl ?_
    refine QOps.nil ?_
    refine Run.ret ?_
    refine retQ.of (.inr rfl) rfl (.tmp rfl .nil) (fun w' hw' => ?_)
    refine ⟨?_, hw'.bel.below⟩
    exact rfl
  · try replace hc1 := of_decide_eq_false hc1
    have hn1 : l.length ≤ 1048576 := by split at hc1 <;> omega
    refine Run.skip ?_
    refine Run.seq ?_
    refine Run.ops ?_
    refine SOps.st rfl rfl (Yv.loadBs (i := 0) lay24 rfl rfl rfl rfl).yl ?_
    refine SOps.one rfl (One.callRow rfl callable17 (.cons rfl (.nil)) (fun w' hw' => toConvoy_spec ((Rd.arg hs) w' hw') (by omega)) (fun A1 c1 => ?_))
    refine SOps.st rfl rfl (Yl.call callable20 (.cons rfl (.nil)) (fun w' hw' => sConvoyLength_spec ((Rd.row (i := 0) rfl) w' hw'))) ?_
    refine SOps.st rfl rfl (Yv.move rfl).yl ?_
    refine SOps.st rfl rfl (Yv.extract rfl rfl).yl ?_
    refine SOps.st rfl rfl (Yv.extract rfl rfl).yl ?_
    refine SOps.st rfl rfl (Yv.assign rfl).yl ?_
    refine SOps.st rfl rfl (Yv.assign rfl).yl ?_
    refine SOps.nil ?_
    refine Run.seq ?_
    refine Run.ops ?_
    refine SOps.st rfl rfl (Yv.loadBs (i := 1) lay24 rfl rfl rfl rfl).yl ?_
    refine SOps.one rfl (One.callRow rfl callable17 (.cons rfl (.nil)) (fun w' hw' => toConvoy_spec ((Rd.arg hs) w' hw') (by omega)) (fun A2 c2 => ?_))
    refine SOps.one rfl (One.alloc rfl zero27 (fun b2 => ?_))
    refine SOps.one rfl (One.store (i := 0) (off := 0) (vs := [_, _]) (cs' := [_, _]) (H' := [_, _, _, _]) lay27 rfl rfl rfl rfl rfl rfl rfl rfl rfl rfl ?_)
    refine SOps.nil ?_
    refine Run.seq ?_
    refine Run.quiet (by intro h; cases h) ?_
    refine QOps.st rfl rfl (Yv.loadBs (i := 0) lay27 rfl rfl rfl rfl).yl ?_
    refine QOps.st rfl rfl (Yl.call callable21 (.cons rfl (.nil)) (fun w' hw' => ConvoyLength_spec ((Rd.row (i := 1) rfl) w' hw'))) ?_
    refine QOps.st rfl rfl (Yv.move rfl).yl ?_
    refine QOps.st rfl rfl (Yv.extract rfl rfl).yl ?_
    refine QOps.st rfl rfl (Yv.extract rfl rfl).yl ?_
    refine QOps.st rfl rfl (Yv.assign rfl).yl ?_
    refine QOps.st rfl rfl (Yv.assign rfl).yl ?_
    refine QOps.nil ?_
    refine Run.seq ?_
    refine Run.seq ?_
    refine Run.quiet (by intro h; cases h) ?_
    refine QOps.st rfl rfl (Yv.move rfl).yl ?_
    refine QOps.st rfl rfl (Yv.move rfl).yl ?_
    refine QOps.st rfl rfl (Yv.neI rfl rfl).yl ?_
    refine QOps.st rfl rfl (Yv.move rfl).yl ?_
    refine' QOps.or [_, _, _] _ (.tmp 33) rfl rfl rfl rfl rfl rfl (fun hg1 => ?_) ?_
    rotate_left
    · try replace hg1 := of_decide_eq_false hg1
      refine QOps.st rfl rfl (Yv.move rfl).yl ?_
      refine QOps.st rfl rfl (Yv.move rfl).yl ?_
      refine QOps.st rfl rfl (Yv.neB bool4 rfl rfl).yl ?_
      exact QOps.nil rfl
    refine QOps.nil ?_
    refine Run.cond rfl (fun hc2 => ?_) (fun hc2 => ?_)
    · exfalso
      simp at hc2
    · try replace hc2 := of_decide_eq_false hc2
      refine Run.skip ?_
      refine Run.seq ?_
      refine Run.seq ?_
      refine Run.draws (fun H => H) (m := 5) (listed := #[false, false, false, false, false]) (by kernel_rfl) rfl rfl ?_
      refine DOps.take (listed' := #[true, false, false, false, false]) 0 rfl (by kernel_rfl) rfl (List.Sublist.refl _) rfl rfl (Yv.loadBs (i := 0) lay27 rfl rfl rfl rfl) ?_
      refine DOps.take (listed' := #[true, true, false, false, false]) 1 rfl (by kernel_rfl) rfl (List.Sublist.refl _) rfl rfl (Yv.loadBs (i := 3) lay24 rfl rfl rfl rfl) ?_
      refine DOps.only (listed' := #[true, true, true, false, false]) 2 rfl (by kernel_rfl) rfl rfl ?_
      refine One.callRow rfl callable17 (.cons rfl (.nil)) (fun w' hw' => toConvoy_spec ((Rd.arg hs) w' hw') (by omega)) (fun A3 c3 => ?_)
      refine ⟨(List.Sublist.cons _ (List.Sublist.refl _)), ?_⟩
      refine DOps.only (listed' := #[true, true, true, true, false]) 3 rfl (by kernel_rfl) rfl rfl ?_
      refine One.st rfl (Yl.call callable19 (.cons rfl (.cons rfl (.nil))) (fun w' hw' => eqConvoy_spec ((Rd.row (i := 2) rfl) w' hw') ((Rd.row (i := 0) rfl) w' hw'))) ?_
      refine ⟨(List.Sublist.cons _ (List.Sublist.refl _)), ?_⟩
      refine DOps.take (listed' := #[true, true, true, true, true]) 4 rfl (by kernel_rfl) rfl (List.Sublist.cons _ (List.Sublist.refl _)) rfl rfl (Yv.not rfl) ?_
      refine DOps.done (by kernel_rfl) ?_
      refine Run.cond rfl (fun hc3 => ?_) (fun hc3 => ?_)
      · exfalso
        simp at hc3
      · try replace hc3 := of_decide_eq_false hc3
        refine Run.skip ?_
        refine Run.seq ?_
        refine Run.quiet (by intro h; cases h) ?_
        refine QOps.st rfl rfl (Yv.assign rfl).yl ?_
        refine QOps.nil ?_
        refine Run.ret ?_
        refine retQ.of (.inr rfl) rfl (.tmp rfl .nil) (fun w' hw' => ?_)
        refine ⟨?_, hw'.bel.below⟩
        exact rfl

end Go.Proofs.Ytfpglglolhlegaa
