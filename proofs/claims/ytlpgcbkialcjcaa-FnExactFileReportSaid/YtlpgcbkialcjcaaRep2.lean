/- Reports: when a report is one, when a list is a file, the last report of a vessel. Conditions: none. -/
import Derived.Test.YtlpgcbkialcjcaaRep1
namespace Go.Proofs.Ytlpgcbkialcjcaa
open Go.RowKit
set_option maxRecDepth 100000
theorem inside_spec {w : World} {n lo hi : Int} : Calls Try.prog 42 #[.int .i64 n, .int .i64 lo, .int .i64 hi] w (RetB w (.bool (inB n lo hi))) := by
  refine calls_of_run (vs := [_, _, _]) (L := [(0, _), (1, _), (2, _)]) (n := 15) (F := []) (H := []) Try.func42 rfl rfl rfl rfl (HOk.start _) ?_
  refine Run.seq ?_
  refine Run.quiet (by intro h; cases h) ?_
  refine QOps.st rfl rfl (Yv.assign rfl).yl ?_
  refine QOps.nil ?_
  refine Run.seq ?_
  refine Run.quiet (by intro h; cases h) ?_
  refine QOps.st rfl rfl (Yv.move rfl).yl ?_
  refine QOps.st rfl rfl (Yv.move rfl).yl ?_
  refine QOps.st rfl rfl (Yv.geq rfl rfl).yl ?_
  refine QOps.st rfl rfl (Yv.move rfl).yl ?_
  refine' QOps.and [_, _, _] _ (.tmp 13) rfl rfl rfl rfl rfl rfl (fun hg1 => ?_) ?_
  rotate_left
  · try replace hg1 := of_decide_eq_true hg1
    refine QOps.st rfl rfl (Yv.move rfl).yl ?_
    refine QOps.st rfl rfl (Yv.move rfl).yl ?_
    refine QOps.st rfl rfl (Yv.leq rfl rfl).yl ?_
    exact QOps.nil rfl
  refine QOps.st rfl rfl (Yv.assign rfl).yl ?_
  refine QOps.nil ?_
  refine Run.ret ?_
  refine retQ.of (.inr rfl) rfl (.tmp rfl .nil) (fun w' hw' => ?_)
  refine ⟨?_, hw'.bel.below⟩
  exact rfl

theorem l1In_spec {w : World} {n lo hi : Int} : Calls Try.prog 49 #[.int .i64 n, .int .i64 lo, .int .i64 hi] w (RetB w (.bool (inB n lo hi))) := by
  refine calls_of_run (vs := [_, _, _]) (L := [(0, _), (1, _), (2, _)]) (n := 15) (F := []) (H := []) Try.func49 rfl rfl rfl rfl (HOk.start _) ?_
  refine Run.seq ?_
  refine Run.quiet (by intro h; cases h) ?_
  refine QOps.st rfl rfl (Yv.assign rfl).yl ?_
  refine QOps.nil ?_
  refine Run.seq ?_
  refine Run.quiet (by intro h; cases h) ?_
  refine QOps.st rfl rfl (Yv.move rfl).yl ?_
  refine QOps.st rfl rfl (Yv.move rfl).yl ?_
  refine QOps.st rfl rfl (Yv.geq rfl rfl).yl ?_
  refine QOps.st rfl rfl (Yv.move rfl).yl ?_
  refine' QOps.and [_, _, _] _ (.tmp 13) rfl rfl rfl rfl rfl rfl (fun hg1 => ?_) ?_
  rotate_left
  · try replace hg1 := of_decide_eq_true hg1
    refine QOps.st rfl rfl (Yv.move rfl).yl ?_
    refine QOps.st rfl rfl (Yv.move rfl).yl ?_
    refine QOps.st rfl rfl (Yv.leq rfl rfl).yl ?_
    exact QOps.nil rfl
  refine QOps.st rfl rfl (Yv.assign rfl).yl ?_
  refine QOps.nil ?_
  refine Run.ret ?_
  refine retQ.of (.inr rfl) rfl (.tmp rfl .nil) (fun w' hw' => ?_)
  refine ⟨?_, hw'.bel.below⟩
  exact rfl

theorem isKilometer_spec {w : World} {n : Int} : Calls Try.prog 43 #[.int .i64 n] w (RetB w (.bool (inB n 0 600))) := by
  refine calls_of_run (vs := [_]) (L := [(0, _)]) (n := 5) (F := []) (H := []) Try.func43 rfl rfl rfl rfl (HOk.start _) ?_
  refine Run.seq ?_
  refine Run.quiet (by intro h; cases h) ?_
  refine QOps.st rfl rfl (Yv.assign rfl).yl ?_
  refine QOps.nil ?_
  refine Run.seq ?_
  refine Run.quiet (by intro h; cases h) ?_
  refine QOps.st rfl rfl (Yv.move rfl).yl ?_
  refine QOps.st rfl rfl (Yl.call callable42 (.cons rfl (.cons rfl (.cons rfl (.nil)))) (fun w' hw' => inside_spec)) ?_
  refine QOps.st rfl rfl (Yv.assign rfl).yl ?_
  refine QOps.nil ?_
  refine Run.ret ?_
  refine retQ.of (.inr rfl) rfl (.tmp rfl .nil) (fun w' hw' => ?_)
  refine ⟨?_, hw'.bel.below⟩
  exact rfl

theorem l17Place_spec {w : World} {n : Int} : Calls Try.prog 59 #[.int .i64 n] w (RetB w (.bool (inB n 0 600))) := by
  refine calls_of_run (vs := [_]) (L := [(0, _)]) (n := 5) (F := []) (H := []) Try.func59 rfl rfl rfl rfl (HOk.start _) ?_
  refine Run.seq ?_
  refine Run.quiet (by intro h; cases h) ?_
  refine QOps.st rfl rfl (Yv.assign rfl).yl ?_
  refine QOps.nil ?_
  refine Run.seq ?_
  refine Run.quiet (by intro h; cases h) ?_
  refine QOps.st rfl rfl (Yv.move rfl).yl ?_
  refine QOps.st rfl rfl (Yl.call callable49 (.cons rfl (.cons rfl (.cons rfl (.nil)))) (fun w' hw' => l1In_spec)) ?_
  refine QOps.st rfl rfl (Yv.assign rfl).yl ?_
  refine QOps.nil ?_
  refine Run.ret ?_
  refine retQ.of (.inr rfl) rfl (.tmp rfl .nil) (fun w' hw' => ?_)
  refine ⟨?_, hw'.bel.below⟩
  exact rfl

theorem isMinute_spec {w : World} {n : Int} : Calls Try.prog 44 #[.int .i64 n] w (RetB w (.bool (inB n 0 9999))) := by
  refine calls_of_run (vs := [_]) (L := [(0, _)]) (n := 5) (F := []) (H := []) Try.func44 rfl rfl rfl rfl (HOk.start _) ?_
  refine Run.seq ?_
  refine Run.quiet (by intro h; cases h) ?_
  refine QOps.st rfl rfl (Yv.assign rfl).yl ?_
  refine QOps.nil ?_
  refine Run.seq ?_
  refine Run.quiet (by intro h; cases h) ?_
  refine QOps.st rfl rfl (Yv.move rfl).yl ?_
  refine QOps.st rfl rfl (Yl.call callable42 (.cons rfl (.cons rfl (.cons rfl (.nil)))) (fun w' hw' => inside_spec)) ?_
  refine QOps.st rfl rfl (Yv.assign rfl).yl ?_
  refine QOps.nil ?_
  refine Run.ret ?_
  refine retQ.of (.inr rfl) rfl (.tmp rfl .nil) (fun w' hw' => ?_)
  refine ⟨?_, hw'.bel.below⟩
  exact rfl

def cmpI (a b : Int) : Int := if a < b then -1 else if b < a then 1 else 0
theorem isNaN_spec {w : World} {a : Int} : Calls Try.prog 67 #[.int .i64 a] w (RetB w (.bool false)) := by
  refine calls_of_run (vs := [_]) (L := [(0, _)]) (n := 6) (F := []) (H := []) Try.func67 rfl rfl rfl rfl (HOk.start _) ?_
  refine Run.seq ?_
  refine Run.quiet (by intro h; cases h) ?_
  refine QOps.st rfl rfl (Yv.assign rfl).yl ?_
  refine QOps.nil ?_
  refine Run.seq ?_
  refine Run.quiet (by intro h; cases h) ?_
  refine QOps.st rfl rfl (Yv.move rfl).yl ?_
  refine QOps.st rfl rfl (Yv.move rfl).yl ?_
  refine QOps.st rfl rfl (Yv.neI rfl rfl).yl ?_
  refine QOps.st rfl rfl (Yv.assign rfl).yl ?_
  refine QOps.nil ?_
  refine Run.ret ?_
  refine retQ.of (.inr rfl) rfl (.tmp rfl .nil) (fun w' hw' => ?_)
  refine ⟨?_, hw'.bel.below⟩
  refine retB_eq ?_
  simp
theorem Compare_spec {w : World} {a b : Int} : Calls Try.prog 61 #[.int .i64 a, .int .i64 b] w (RetB w (.int .i64 (cmpI a b))) := by
  refine calls_of_run (vs := [_, _]) (L := [(0, _), (1, _)]) (n := 20) (F := []) (H := []) Try.func61 rfl rfl rfl rfl (HOk.start _) ?_
  refine Run.seq ?_
  refine Run.quiet (by intro h; cases h) ?_
  refine QOps.st rfl rfl (Yv.assign rfl).yl ?_
  refine QOps.nil ?_
  refine Run.seq ?_
  refine Run.quiet (by intro h; cases h) ?_
  refine QOps.st rfl rfl (Yv.move rfl).yl ?_
  refine QOps.st rfl rfl (Yl.call callable67 (.cons rfl (.nil)) (fun w' hw' => isNaN_spec)) ?_
  refine QOps.st rfl rfl (Yv.assign rfl).yl ?_
  refine QOps.nil ?_
  refine Run.seq ?_
  refine Run.quiet (by intro h; cases h) ?_
  refine QOps.st rfl rfl (Yv.move rfl).yl ?_
  refine QOps.st rfl rfl (Yl.call callable67 (.cons rfl (.nil)) (fun w' hw' => isNaN_spec)) ?_
  refine QOps.st rfl rfl (Yv.assign rfl).yl ?_
  refine QOps.nil ?_
  refine Run.seq ?_
  refine Run.seq ?_
  refine Run.quiet (by intro h; cases h) ?_
  refine QOps.st rfl rfl (Yv.move rfl).yl ?_
  refine QOps.nil ?_
  refine Run.cond rfl (fun hc1 => ?_) (fun hc1 => ?_)
  · exfalso
    cases hc1
  · try replace hc1 := of_decide_eq_false hc1
    refine Run.skip ?_
    refine Run.seq ?_
    refine Run.seq ?_
    refine Run.quiet (by intro h; cases h) ?_
    refine QOps.st rfl rfl (Yv.move rfl).yl ?_
    refine QOps.nil ?_
    refine Run.cond rfl (fun hc2 => ?_) (fun hc2 => ?_)
    · exfalso
      cases hc2
    · try replace hc2 := of_decide_eq_false hc2
      refine Run.skip ?_
      refine Run.seq ?_
      refine Run.seq ?_
      refine Run.quiet (by intro h; cases h) ?_
      refine QOps.st rfl rfl (Yv.move rfl).yl ?_
      refine QOps.st rfl rfl (Yv.move rfl).yl ?_
      refine QOps.st rfl rfl (Yv.lss rfl rfl).yl ?_
      refine QOps.nil ?_
      refine Run.cond rfl (fun hc3 => ?_) (fun hc3 => ?_)
      · try replace hc3 := of_decide_eq_true hc3
        refine Run.seq ?_
        refine Run.quiet (by intro h; cases h) ?_
        refine QOps.st rfl rfl (Yv.assign rfl).yl ?_
        refine QOps.nil ?_
        refine Run.ret ?_
        refine retQ.of (.inr rfl) rfl (.tmp rfl .nil) (fun w' hw' => ?_)
        refine ⟨?_, hw'.bel.below⟩
        refine retI_eq ?_
        unfold cmpI; rw [if_pos hc3]
      · try replace hc3 := of_decide_eq_false hc3
        refine Run.skip ?_
        refine Run.seq ?_
        refine Run.seq ?_
        refine Run.quiet (by intro h; cases h) ?_
        refine QOps.st rfl rfl (Yv.move rfl).yl ?_
        refine QOps.st rfl rfl (Yv.move rfl).yl ?_
        refine QOps.st rfl rfl (Yv.gtr rfl rfl).yl ?_
        refine QOps.nil ?_
        refine Run.cond rfl (fun hc4 => ?_) (fun hc4 => ?_)
        · try replace hc4 := of_decide_eq_true hc4
          refine Run.seq ?_
          refine Run.quiet (by intro h; cases h) ?_
          refine QOps.st rfl rfl (Yv.assign rfl).yl ?_
          refine QOps.nil ?_
          refine Run.ret ?_
          refine retQ.of (.inr rfl) rfl (.tmp rfl .nil) (fun w' hw' => ?_)
          refine ⟨?_, hw'.bel.below⟩
          refine retI_eq ?_
          unfold cmpI; rw [if_neg hc3, if_pos hc4]
        · try replace hc4 := of_decide_eq_false hc4
          refine Run.skip ?_
          refine Run.seq ?_
          refine Run.quiet (by intro h; cases h) ?_
          refine QOps.st rfl rfl (Yv.assign rfl).yl ?_
          refine QOps.nil ?_
          refine Run.ret ?_
          refine retQ.of (.inr rfl) rfl (.tmp rfl .nil) (fun w' hw' => ?_)
          refine ⟨?_, hw'.bel.below⟩
          refine retI_eq ?_
          unfold cmpI; rw [if_neg hc3, if_neg hc4]
def orI : List Int → Int
  | [] => 0
  | x :: r => if x = 0 then orI r else x
theorem drop_nth {α : Type} [Inhabited α] {l : List α} {k : Nat} (h : k < l.length) : l.drop k = nth l k :: l.drop (k + 1) := by
  rw [List.drop_eq_getElem_cons h]
  simp [nth, h]
theorem Or_spec {w : World} {A : Option Addr} {c : Nat} {l : List Int} (hs : Sl w 1 A l.length c (l.flatMap intC)) : Calls Try.prog 60 #[.slice A l.length c] w (RetB w (.int .i64 (orI l))) := by
  have hmx := Sl.lenle hs
  refine calls_of_run (vs := [_]) (L := [(0, _)]) (n := 18) (F := []) (H := []) Try.func60 rfl rfl rfl rfl (HOk.start _) ?_
  refine Run.seq ?_
  refine Run.quiet (by intro h; cases h) ?_
  refine QOps.st rfl rfl (Yv.assign rfl).yl ?_
  refine QOps.nil ?_
  refine Run.seq ?_
  refine Run.quiet (by intro h; cases h) ?_
  refine QOps.st rfl rfl (Yv.assign rfl).yl ?_
  refine QOps.nil ?_
  refine Run.seq ?_
  refine Run.seq ?_
  refine Run.quiet (by intro h; cases h) ?_
  refine QOps.st rfl rfl (Yv.move rfl).yl ?_
  refine QOps.st rfl rfl (Yv.lenS el39s rfl).yl ?_
  refine QOps.st rfl rfl (Yv.move rfl).yl ?_
  refine QOps.nil ?_
  refine Run.block ?_
  refine Run.loop (S := Nat) (fun s => match s with | k => k ≤ l.length ∧ orI (l.drop k) = orI l) (fun s => match s with | k => [(3, .int .i64 0), (6, .slice A l.length c), (7, .int .i64 (l.length : Int)), (8, .int .i64 (k : Int))]) (fun s => match s with | k => []) (fun s => match s with | k => l.length - k) 0 ?_ (SubE.cons rfl (SubE.cons rfl (SubE.cons rfl (SubE.cons rfl (SubE.nil _))))) (List.Sublist.refl _) ?_
  · exact ⟨by omega, rfl⟩
  · rintro k ⟨hk, heq⟩
    show Run _ _ _ _ _ [(3, .int .i64 0), (6, .slice A l.length c), (7, .int .i64 (l.length : Int)), (8, .int .i64 (k : Int))] [] _
    refine Run.seq ?_
    refine Run.quiet (by intro h; cases h) ?_
    refine QOps.st rfl rfl (Yv.lss rfl rfl).yl ?_
    refine QOps.nil ?_
    refine Run.seq ?_
    refine Run.cond rfl (fun hc1 => ?_) (fun hc1 => ?_)
    · try replace hc1 := of_decide_eq_true hc1
      refine Run.skip ?_
      refine Run.seq ?_
      refine Run.block ?_
      refine Run.seq ?_
      refine Run.quiet (by intro h; cases h) ?_
      refine QOps.st rfl rfl (Yv.indexAddr k el39 rfl rfl rfl (Rd.arg hs) (by omega)).yl ?_
      refine QOps.st rfl rfl (Yv.loadE lay3 rfl intC_len (Rd.arg hs) (by first | omega | (simp; omega)) rfl).yl ?_
      refine QOps.st rfl rfl (Yv.assign rfl).yl ?_
      refine QOps.nil ?_
      refine Run.seq ?_
      refine Run.quiet (by intro h; cases h) ?_
      refine QOps.st rfl rfl (Yv.move rfl).yl ?_
      refine QOps.st rfl rfl (Yv.move rfl).yl ?_
      refine QOps.st rfl rfl (Yv.neI rfl rfl).yl ?_
      refine QOps.nil ?_
      refine Run.cond rfl (fun hc2 => ?_) (fun hc2 => ?_)
      · try replace hc2 := of_decide_eq_true hc2
        have hx : orI l = nth l k := by rw [← heq, drop_nth (by omega), orI, if_neg (by simpa using hc2)]
        refine Run.seq ?_
        refine Run.quiet (by intro h; cases h) ?_
        refine QOps.st rfl rfl (Yv.move rfl).yl ?_
        refine QOps.st rfl rfl (Yv.assign rfl).yl ?_
        refine QOps.nil ?_
        refine Run.ret ?_
        refine retQ.of (.inr rfl) rfl (.tmp rfl .nil) (fun w' hw' => ?_)
        refine ⟨?_, hw'.bel.below⟩
        refine retI_eq ?_
        rw [hx]
      · try replace hc2 := of_decide_eq_false hc2
        refine Run.skip ?_
        refine Run.quiet (by intro h; cases h) ?_
        refine QOps.st rfl rfl (Yv.succN rfl rfl (by omega)).yl ?_
        refine QOps.st rfl rfl (Yv.move rfl).yl ?_
        refine QOps.nil ?_
        refine ⟨k + 1, ?_, ?_, (SubE.cons rfl (SubE.cons rfl (SubE.cons rfl (SubE.cons rfl (SubE.nil _))))), (List.Sublist.refl _)⟩
        · exact ⟨by omega, by rw [← heq, drop_nth (l := l) (k := k) (by omega), orI, if_pos (by simpa using hc2)]⟩
        · first | omega | (dsimp only; omega)
    · try replace hc1 := of_decide_eq_false hc1
      refine Run.exit ?_
      refine Run.seq ?_
      refine Run.quiet (by intro h; cases h) ?_
      refine QOps.st rfl rfl (Yv.move rfl).yl ?_
      refine QOps.st rfl rfl (Yv.assign rfl).yl ?_
      refine QOps.nil ?_
      refine Run.ret ?_
      refine retQ.of (.inr rfl) rfl (.tmp rfl .nil) (fun w' hw' => ?_)
      refine ⟨?_, hw'.bel.below⟩
      refine retI_eq ?_
      rw [← heq, List.drop_of_length_le (by omega)]; rfl

/-- A report's numbers are in their ranges. -/
def oneR (r : Report) : Bool := inB r.vessel 1 99 && inB r.number 1 999 && inB r.kind 1 3 && inB r.place 0 600 && inB r.minute 0 9999 && inB r.cones 0 3
theorem IsEReport_spec {w : World} {r : Report} : Calls Try.prog 13 #[.agg r.enc.toArray] w (RetB w (.bool (oneR r))) := by
  refine calls_of_run (vs := [_]) (L := [(0, _)]) (n := 31) (F := []) (H := []) Try.func13 rfl rfl rfl rfl (HOk.start _) ?_
  refine Run.seq ?_
  refine Run.ops ?_
  refine SOps.one rfl (One.box (cs := [_, _, _, _, _, _]) rfl rfl rfl (fun b1 => ?_))
  refine SOps.st rfl rfl (Yv.assign rfl).yl ?_
  refine SOps.nil ?_
  refine Run.seq ?_
  refine Run.quiet (by intro h; cases h) ?_
  refine QOps.st rfl rfl (Yv.fieldAddr fld25_0 rfl).yl ?_
  refine QOps.st rfl rfl (Yv.loadB (i := 0) lay3 rfl rfl rfl rfl).yl ?_
  refine QOps.st rfl rfl (Yl.call callable42 (.cons rfl (.cons rfl (.cons rfl (.nil)))) (fun w' hw' => inside_spec)) ?_
  refine QOps.st rfl rfl (Yv.move rfl).yl ?_
  refine' QOps.and [_, _, _] _ (.tmp 9) rfl rfl rfl rfl rfl rfl (fun hg1 => ?_) ?_
  rotate_left
  · try replace hg1 := of_decide_eq_true hg1
    refine QOps.st rfl rfl (Yv.fieldAddr fld25_1 rfl).yl ?_
    refine QOps.st rfl rfl (Yv.loadB (i := 0) lay3 rfl rfl rfl rfl).yl ?_
    refine QOps.st rfl rfl (Yl.call callable42 (.cons rfl (.cons rfl (.cons rfl (.nil)))) (fun w' hw' => inside_spec)) ?_
    exact QOps.nil rfl
  refine QOps.st rfl rfl (Yv.move rfl).yl ?_
  refine' QOps.and [_, _, _] _ (.tmp 14) rfl rfl rfl rfl rfl rfl (fun hg2 => ?_) ?_
  rotate_left
  · try replace hg2 := of_decide_eq_true hg2
    refine QOps.st rfl rfl (Yv.fieldAddr fld25_2 rfl).yl ?_
    refine QOps.st rfl rfl (Yv.loadB (i := 0) lay3 rfl rfl rfl rfl).yl ?_
    refine QOps.st rfl rfl (Yl.call callable42 (.cons rfl (.cons rfl (.cons rfl (.nil)))) (fun w' hw' => inside_spec)) ?_
    exact QOps.nil rfl
  refine QOps.st rfl rfl (Yv.move rfl).yl ?_
  refine' QOps.and [_, _, _] _ (.tmp 19) rfl rfl rfl rfl rfl rfl (fun hg3 => ?_) ?_
  rotate_left
  · try replace hg3 := of_decide_eq_true hg3
    refine QOps.st rfl rfl (Yv.fieldAddr fld25_3 rfl).yl ?_
    refine QOps.st rfl rfl (Yv.loadB (i := 0) lay3 rfl rfl rfl rfl).yl ?_
    refine QOps.st rfl rfl (Yl.call callable43 (.cons rfl (.nil)) (fun w' hw' => isKilometer_spec)) ?_
    exact QOps.nil rfl
  refine QOps.st rfl rfl (Yv.move rfl).yl ?_
  refine' QOps.and [_, _, _] _ (.tmp 24) rfl rfl rfl rfl rfl rfl (fun hg4 => ?_) ?_
  rotate_left
  · try replace hg4 := of_decide_eq_true hg4
    refine QOps.st rfl rfl (Yv.fieldAddr fld25_4 rfl).yl ?_
    refine QOps.st rfl rfl (Yv.loadB (i := 0) lay3 rfl rfl rfl rfl).yl ?_
    refine QOps.st rfl rfl (Yl.call callable44 (.cons rfl (.nil)) (fun w' hw' => isMinute_spec)) ?_
    exact QOps.nil rfl
  refine QOps.st rfl rfl (Yv.move rfl).yl ?_
  refine' QOps.and [_, _, _] _ (.tmp 29) rfl rfl rfl rfl rfl rfl (fun hg5 => ?_) ?_
  rotate_left
  · try replace hg5 := of_decide_eq_true hg5
    refine QOps.st rfl rfl (Yv.fieldAddr fld25_5 rfl).yl ?_
    refine QOps.st rfl rfl (Yv.loadB (i := 0) lay3 rfl rfl rfl rfl).yl ?_
    refine QOps.st rfl rfl (Yl.call callable42 (.cons rfl (.cons rfl (.cons rfl (.nil)))) (fun w' hw' => inside_spec)) ?_
    exact QOps.nil rfl
  refine QOps.st rfl rfl (Yv.assign rfl).yl ?_
  refine QOps.nil ?_
  refine Run.ret ?_
  refine retQ.of (.inr rfl) rfl (.tmp rfl .nil) (fun w' hw' => ?_)
  refine ⟨?_, hw'.bel.below⟩
  exact rfl

theorem l20One_spec {w : World} {r : Report} : Calls Try.prog 41 #[.agg r.enc.toArray] w (RetB w (.bool (oneR r))) := by
  refine calls_of_run (vs := [_]) (L := [(0, _)]) (n := 31) (F := []) (H := []) Try.func41 rfl rfl rfl rfl (HOk.start _) ?_
  refine Run.seq ?_
  refine Run.ops ?_
  refine SOps.one rfl (One.box (cs := [_, _, _, _, _, _]) rfl rfl rfl (fun b1 => ?_))
  refine SOps.st rfl rfl (Yv.assign rfl).yl ?_
  refine SOps.nil ?_
  refine Run.seq ?_
  refine Run.quiet (by intro h; cases h) ?_
  refine QOps.st rfl rfl (Yv.fieldAddr fld25_0 rfl).yl ?_
  refine QOps.st rfl rfl (Yv.loadB (i := 0) lay3 rfl rfl rfl rfl).yl ?_
  refine QOps.st rfl rfl (Yl.call callable49 (.cons rfl (.cons rfl (.cons rfl (.nil)))) (fun w' hw' => l1In_spec)) ?_
  refine QOps.st rfl rfl (Yv.move rfl).yl ?_
  refine' QOps.and [_, _, _] _ (.tmp 9) rfl rfl rfl rfl rfl rfl (fun hg1 => ?_) ?_
  rotate_left
  · try replace hg1 := of_decide_eq_true hg1
    refine QOps.st rfl rfl (Yv.fieldAddr fld25_1 rfl).yl ?_
    refine QOps.st rfl rfl (Yv.loadB (i := 0) lay3 rfl rfl rfl rfl).yl ?_
    refine QOps.st rfl rfl (Yl.call callable49 (.cons rfl (.cons rfl (.cons rfl (.nil)))) (fun w' hw' => l1In_spec)) ?_
    exact QOps.nil rfl
  refine QOps.st rfl rfl (Yv.move rfl).yl ?_
  refine' QOps.and [_, _, _] _ (.tmp 14) rfl rfl rfl rfl rfl rfl (fun hg2 => ?_) ?_
  rotate_left
  · try replace hg2 := of_decide_eq_true hg2
    refine QOps.st rfl rfl (Yv.fieldAddr fld25_2 rfl).yl ?_
    refine QOps.st rfl rfl (Yv.loadB (i := 0) lay3 rfl rfl rfl rfl).yl ?_
    refine QOps.st rfl rfl (Yl.call callable49 (.cons rfl (.cons rfl (.cons rfl (.nil)))) (fun w' hw' => l1In_spec)) ?_
    exact QOps.nil rfl
  refine QOps.st rfl rfl (Yv.move rfl).yl ?_
  refine' QOps.and [_, _, _] _ (.tmp 19) rfl rfl rfl rfl rfl rfl (fun hg3 => ?_) ?_
  rotate_left
  · try replace hg3 := of_decide_eq_true hg3
    refine QOps.st rfl rfl (Yv.fieldAddr fld25_3 rfl).yl ?_
    refine QOps.st rfl rfl (Yv.loadB (i := 0) lay3 rfl rfl rfl rfl).yl ?_
    refine QOps.st rfl rfl (Yl.call callable59 (.cons rfl (.nil)) (fun w' hw' => l17Place_spec)) ?_
    exact QOps.nil rfl
  refine QOps.st rfl rfl (Yv.move rfl).yl ?_
  refine' QOps.and [_, _, _] _ (.tmp 24) rfl rfl rfl rfl rfl rfl (fun hg4 => ?_) ?_
  rotate_left
  · try replace hg4 := of_decide_eq_true hg4
    refine QOps.st rfl rfl (Yv.fieldAddr fld25_4 rfl).yl ?_
    refine QOps.st rfl rfl (Yv.loadB (i := 0) lay3 rfl rfl rfl rfl).yl ?_
    refine QOps.st rfl rfl (Yl.call callable49 (.cons rfl (.cons rfl (.cons rfl (.nil)))) (fun w' hw' => l1In_spec)) ?_
    exact QOps.nil rfl
  refine QOps.st rfl rfl (Yv.move rfl).yl ?_
  refine' QOps.and [_, _, _] _ (.tmp 29) rfl rfl rfl rfl rfl rfl (fun hg5 => ?_) ?_
  rotate_left
  · try replace hg5 := of_decide_eq_true hg5
    refine QOps.st rfl rfl (Yv.fieldAddr fld25_5 rfl).yl ?_
    refine QOps.st rfl rfl (Yv.loadB (i := 0) lay3 rfl rfl rfl rfl).yl ?_
    refine QOps.st rfl rfl (Yl.call callable49 (.cons rfl (.cons rfl (.cons rfl (.nil)))) (fun w' hw' => l1In_spec)) ?_
    exact QOps.nil rfl
  refine QOps.st rfl rfl (Yv.assign rfl).yl ?_
  refine QOps.nil ?_
  refine Run.ret ?_
  refine retQ.of (.inr rfl) rfl (.tmp rfl .nil) (fun w' hw' => ?_)
  refine ⟨?_, hw'.bel.below⟩
  exact rfl

theorem sIsEReport_spec {w : World} {r : Report} : Calls Try.prog 11 #[.agg r.enc.toArray] w (RetB w (.bool (oneR r))) := by
  refine calls_of_run (vs := [_]) (L := [(0, _)]) (n := 5) (F := []) (H := []) Try.func11 rfl rfl rfl rfl (HOk.start _) ?_
  refine Run.seq ?_
  refine Run.ops ?_
  refine SOps.one rfl (One.box (cs := [_, _, _, _, _, _]) rfl rfl rfl (fun b1 => ?_))
  refine SOps.st rfl rfl (Yv.assign rfl).yl ?_
  refine SOps.nil ?_
  refine Run.seq ?_
  refine Run.quiet (by intro h; cases h) ?_
  refine QOps.st rfl rfl (Yv.loadBs (i := 0) lay25 rfl rfl rfl rfl).yl ?_
  refine QOps.st rfl rfl (Yl.call callable41 (.cons rfl (.nil)) (fun w' hw' => l20One_spec)) ?_
  refine QOps.st rfl rfl (Yv.assign rfl).yl ?_
  refine QOps.nil ?_
  refine Run.ret ?_
  refine retQ.of (.inr rfl) rfl (.tmp rfl .nil) (fun w' hw' => ?_)
  refine ⟨?_, hw'.bel.below⟩
  exact rfl

def cmpR (a b : Report) : Int := orI [cmpI a.vessel b.vessel, cmpI a.number b.number]
def beforeR (a b : Report) : Bool := decide (a.vessel < b.vessel) || (decide (a.vessel = b.vessel) && decide (a.number < b.number))
theorem cmpI_lt {a b : Int} (h : a < b) : cmpI a b = -1 := by unfold cmpI; rw [if_pos h]
theorem cmpI_eq {a b : Int} (h : a = b) : cmpI a b = 0 := by unfold cmpI; rw [if_neg (by omega), if_neg (by omega)]
theorem cmpI_self {a : Int} : cmpI a a = 0 := cmpI_eq rfl
theorem cmpI_gt {a b : Int} (h : b < a) : cmpI a b = 1 := by unfold cmpI; rw [if_neg (by omega), if_pos h]
theorem cmpR_ge {a b : Report} : decide (0 ≤ cmpR a b) = !beforeR a b := by
  unfold cmpR beforeR
  rcases Int.lt_trichotomy a.vessel b.vessel with h | h | h
  · simp [orI, cmpI_lt h, h]
  · rcases Int.lt_trichotomy a.number b.number with h2 | h2 | h2
    · simp [orI, cmpI_self, cmpI_lt h2, h, h2]
    · simp [orI, cmpI_self, h, h2]
    · have h3 : ¬ a.number < b.number := by omega
      simp [orI, cmpI_self, cmpI_gt h2, h, h3]
  · have h3 : ¬ a.vessel < b.vessel := by omega
    have h4 : ¬ a.vessel = b.vessel := by omega
    simp [orI, cmpI_gt h, h3, h4]
theorem compareReports_spec {w : World} {a b : Report} : Calls Try.prog 46 #[.agg a.enc.toArray, .agg b.enc.toArray] w (RetB w (.int .i64 (cmpR a b))) := by
  refine calls_of_run (vs := [_, _]) (L := [(0, _), (1, _)]) (n := 17) (F := []) (H := []) Try.func46 rfl rfl rfl rfl (HOk.start _) ?_
  refine Run.seq ?_
  refine Run.ops ?_
  refine SOps.one rfl (One.box (cs := [_, _, _, _, _, _]) rfl rfl rfl (fun b1 => ?_))
  refine SOps.one rfl (One.box (cs := [_, _, _, _, _, _]) rfl rfl rfl (fun b2 => ?_))
  refine SOps.st rfl rfl (Yv.assign rfl).yl ?_
  refine SOps.nil ?_
  refine Run.seq ?_
  refine Run.draws (fun H => H) (m := 13) (listed := #[false, false, false, false, false, false, false, false, false, false, false, false, false]) (by kernel_rfl) rfl rfl ?_
  refine DOps.take (listed' := #[true, false, false, false, false, false, false, false, false, false, false, false, false]) 0 rfl (by kernel_rfl) rfl (List.Sublist.refl _) rfl rfl (Yv.fieldAddr fld25_0 rfl) ?_
  refine DOps.take (listed' := #[true, true, false, false, false, false, false, false, false, false, false, false, false]) 1 rfl (by kernel_rfl) rfl (List.Sublist.refl _) rfl rfl (Yv.loadB (i := 1) lay3 rfl rfl rfl rfl) ?_
  refine DOps.take (listed' := #[true, true, true, false, false, false, false, false, false, false, false, false, false]) 2 rfl (by kernel_rfl) rfl (List.Sublist.refl _) rfl rfl (Yv.fieldAddr fld25_0 rfl) ?_
  refine DOps.take (listed' := #[true, true, true, true, false, false, false, false, false, false, false, false, false]) 3 rfl (by kernel_rfl) rfl (List.Sublist.refl _) rfl rfl (Yv.loadB (i := 0) lay3 rfl rfl rfl rfl) ?_
  refine DOps.take (listed' := #[true, true, true, true, false, true, false, false, false, false, false, false, false]) 5 rfl (by kernel_rfl) rfl (List.Sublist.refl _) rfl rfl (Yv.fieldAddr fld25_1 rfl) ?_
  refine DOps.take (listed' := #[true, true, true, true, false, true, true, false, false, false, false, false, false]) 6 rfl (by kernel_rfl) rfl (List.Sublist.refl _) rfl rfl (Yv.loadB (i := 1) lay3 rfl rfl rfl rfl) ?_
  refine DOps.take (listed' := #[true, true, true, true, false, true, true, true, false, false, false, false, false]) 7 rfl (by kernel_rfl) rfl (List.Sublist.refl _) rfl rfl (Yv.fieldAddr fld25_1 rfl) ?_
  refine DOps.take (listed' := #[true, true, true, true, false, true, true, true, true, false, false, false, false]) 8 rfl (by kernel_rfl) rfl (List.Sublist.refl _) rfl rfl (Yv.loadB (i := 0) lay3 rfl rfl rfl rfl) ?_
  refine DOps.only (listed' := #[true, true, true, true, true, true, true, true, true, false, false, false, false]) 4 rfl (by kernel_rfl) rfl rfl ?_
  refine One.st rfl (Yl.call callable61 (.cons rfl (.cons rfl (.nil))) (fun w' hw' => Compare_spec)) ?_
  refine ⟨(List.Sublist.refl _), ?_⟩
  refine DOps.only (listed' := #[true, true, true, true, true, true, true, true, true, true, false, false, false]) 9 rfl (by kernel_rfl) rfl rfl ?_
  refine One.st rfl (Yl.call callable61 (.cons rfl (.cons rfl (.nil))) (fun w' hw' => Compare_spec)) ?_
  refine ⟨(List.Sublist.refl _), ?_⟩
  refine DOps.only (listed' := #[true, true, true, true, true, true, true, true, true, true, true, false, false]) 10 rfl (by kernel_rfl) rfl rfl ?_
  refine One.buildSliceG (pv := [(0, _), (1, _)]) (cs := [_, _]) (fun l => match l with | [a0_0, a1_0] => [a0_0, a1_0] | _ => []) rfl el39 (.cons rfl (.cons rfl (.nil))) rfl rfl (by kernel_rfl) rfl rfl (fun b3 => ?_)
  refine ⟨(List.Sublist.cons _ (List.Sublist.refl _)), ?_⟩
  refine DOps.only (listed' := #[true, true, true, true, true, true, true, true, true, true, true, true, false]) 11 rfl (by kernel_rfl) rfl rfl ?_
  refine One.st rfl (Yl.call callable60 (.cons rfl (.nil)) (fun w' hw' => Or_spec (l := [cmpI a.vessel b.vessel, cmpI a.number b.number]) (Rd.row (i := 0) rfl w' hw'))) ?_
  refine ⟨(List.Sublist.cons _ (List.Sublist.refl _)), ?_⟩
  refine DOps.take (listed' := #[true, true, true, true, true, true, true, true, true, true, true, true, true]) 12 rfl (by kernel_rfl) rfl (List.Sublist.cons _ (List.Sublist.refl _)) rfl rfl (Yv.assign rfl) ?_
  refine DOps.done (by kernel_rfl) ?_
  refine Run.ret ?_
  refine retQ.of (.inr rfl) rfl (.tmp rfl .nil) (fun w' hw' => ?_)
  refine ⟨?_, hw'.bel.below⟩
  exact rfl
theorem l20Before_spec {w : World} {a b : Report} : Calls Try.prog 56 #[.agg a.enc.toArray, .agg b.enc.toArray] w (RetB w (.bool (beforeR a b))) := by
  refine calls_of_run (vs := [_, _]) (L := [(0, _), (1, _)]) (n := 24) (F := []) (H := []) Try.func56 rfl rfl rfl rfl (HOk.start _) ?_
  refine Run.seq ?_
  refine Run.ops ?_
  refine SOps.one rfl (One.box (cs := [_, _, _, _, _, _]) rfl rfl rfl (fun b1 => ?_))
  refine SOps.one rfl (One.box (cs := [_, _, _, _, _, _]) rfl rfl rfl (fun b2 => ?_))
  refine SOps.st rfl rfl (Yv.assign rfl).yl ?_
  refine SOps.nil ?_
  refine Run.seq ?_
  refine Run.quiet (by intro h; cases h) ?_
  refine QOps.st rfl rfl (Yv.fieldAddr fld25_0 rfl).yl ?_
  refine QOps.st rfl rfl (Yv.loadB (i := 1) lay3 rfl rfl rfl rfl).yl ?_
  refine QOps.st rfl rfl (Yv.fieldAddr fld25_0 rfl).yl ?_
  refine QOps.st rfl rfl (Yv.loadB (i := 0) lay3 rfl rfl rfl rfl).yl ?_
  refine QOps.st rfl rfl (Yv.lss rfl rfl).yl ?_
  refine QOps.st rfl rfl (Yv.move rfl).yl ?_
  refine' QOps.or [_, _, _, _, _, _, _, _, _, _, _, _] _ (.tmp 22) rfl rfl rfl rfl rfl rfl (fun hg1 => ?_) ?_
  rotate_left
  · try replace hg1 := of_decide_eq_false hg1
    refine QOps.st rfl rfl (Yv.fieldAddr fld25_0 rfl).yl ?_
    refine QOps.st rfl rfl (Yv.loadB (i := 1) lay3 rfl rfl rfl rfl).yl ?_
    refine QOps.st rfl rfl (Yv.fieldAddr fld25_0 rfl).yl ?_
    refine QOps.st rfl rfl (Yv.loadB (i := 0) lay3 rfl rfl rfl rfl).yl ?_
    refine QOps.st rfl rfl (Yv.eqI rfl rfl).yl ?_
    refine QOps.st rfl rfl (Yv.move rfl).yl ?_
    refine' QOps.and [_, _, _, _, _] _ (.tmp 21) rfl rfl rfl rfl rfl rfl (fun hg2 => ?_) ?_
    rotate_left
    · try replace hg2 := of_decide_eq_true hg2
      refine QOps.st rfl rfl (Yv.fieldAddr fld25_1 rfl).yl ?_
      refine QOps.st rfl rfl (Yv.loadB (i := 1) lay3 rfl rfl rfl rfl).yl ?_
      refine QOps.st rfl rfl (Yv.fieldAddr fld25_1 rfl).yl ?_
      refine QOps.st rfl rfl (Yv.loadB (i := 0) lay3 rfl rfl rfl rfl).yl ?_
      refine QOps.st rfl rfl (Yv.lss rfl rfl).yl ?_
      exact QOps.nil rfl
    exact QOps.nil rfl
  refine QOps.st rfl rfl (Yv.assign rfl).yl ?_
  refine QOps.nil ?_
  refine Run.ret ?_
  refine retQ.of (.inr rfl) rfl (.tmp rfl .nil) (fun w' hw' => ?_)
  refine ⟨?_, hw'.bel.below⟩
  exact rfl

def badR (rs : List Report) (k : Nat) : Bool := !oneR (nth rs k) || (decide ((0 : Int) < (k : Int)) && !beforeR (nth rs (k - 1)) (nth rs k))
def isFile (rs : List Report) : Bool := allTo rs.length (fun k => !badR rs k) && decide ((rs.length : Int) ≤ 12)
theorem file_bad {rs : List Report} {k : Nat} (hk : k < rs.length) (h : badR rs k = true) : isFile rs = false := by
  unfold isFile
  rw [allTo_false hk (by rw [h]; rfl)]
  rfl
theorem file_good {rs : List Report} (h : ∀ i, i < rs.length → badR rs i = false) : isFile rs = decide ((rs.length : Int) ≤ 12) := by
  unfold isFile
  rw [allTo_iff.2 (fun i hi => by rw [h i hi]; rfl)]
  rfl
theorem file_parts {rs : List Report} (h : isFile rs = true) : rs.length ≤ 12 ∧ ∀ k, k < rs.length → badR rs k = false := by
  simp only [isFile, Bool.and_eq_true, decide_eq_true_eq, allTo_iff, Bool.not_eq_true'] at h
  exact ⟨by omega, h.1⟩
theorem bad_one {rs : List Report} {k : Nat} (h : badR rs k = false) : oneR (nth rs k) = true := by
  simp only [badR, Bool.or_eq_false_iff, Bool.not_eq_false'] at h
  exact h.1
theorem IsFile_spec {w : World} {A : Option Addr} {c : Nat} {rs : List Report} (hs : Sl w 6 A rs.length c (rs.flatMap Report.enc)) : Calls Try.prog 17 #[.slice A rs.length c] w (RetB w (.bool (isFile rs))) := by
  have hmx := Sl.lenle hs
  refine calls_of_run (vs := [_]) (L := [(0, _)]) (n := 33) (F := []) (H := []) Try.func17 rfl rfl rfl rfl (HOk.start _) ?_
  refine Run.seq ?_
  refine Run.quiet (by intro h; cases h) ?_
  refine QOps.st rfl rfl (Yv.assign rfl).yl ?_
  refine QOps.nil ?_
  refine Run.seq ?_
  refine Run.seq ?_
  refine Run.quiet (by intro h; cases h) ?_
  refine QOps.st rfl rfl (Yv.move rfl).yl ?_
  refine QOps.st rfl rfl (Yv.lenS el31s rfl).yl ?_
  refine QOps.st rfl rfl (Yv.move rfl).yl ?_
  refine QOps.nil ?_
  refine Run.block ?_
  refine Run.loop (S := Nat) (fun s => match s with | k => k ≤ rs.length ∧ ∀ i, i < k → badR rs i = false) (fun s => match s with | k => [(0, .slice A rs.length c), (5, .slice A rs.length c), (6, .int .i64 (rs.length : Int)), (7, .int .i64 (k : Int))]) (fun s => match s with | k => []) (fun s => match s with | k => rs.length - k) 0 ?_ (SubE.cons rfl (SubE.cons rfl (SubE.cons rfl (SubE.cons rfl (SubE.nil _))))) (List.Sublist.refl _) ?_
  · exact ⟨by omega, fun i hi => by omega⟩
  · rintro k ⟨hk, hall⟩
    show Run _ _ _ _ _ [(0, .slice A rs.length c), (5, .slice A rs.length c), (6, .int .i64 (rs.length : Int)), (7, .int .i64 (k : Int))] [] _
    refine Run.seq ?_
    refine Run.quiet (by intro h; cases h) ?_
    refine QOps.st rfl rfl (Yv.lss rfl rfl).yl ?_
    refine QOps.nil ?_
    refine Run.seq ?_
    refine Run.cond rfl (fun hc1 => ?_) (fun hc1 => ?_)
    · try replace hc1 := of_decide_eq_true hc1
      refine Run.skip ?_
      refine Run.seq ?_
      refine Run.block ?_
      refine Run.seq ?_
      refine Run.ops ?_
      refine SOps.st rfl rfl (Yv.move rfl).yl ?_
      refine SOps.st rfl rfl (Yv.indexAddr k el31 rfl rfl rfl (Rd.arg hs) (by omega)).yl ?_
      refine SOps.st rfl rfl (Yv.loadEs lay25 rfl Report.len (Rd.arg hs) (by first | omega | (simp; omega)) (by decide)).yl ?_
      refine SOps.one rfl (One.alloc rfl zero25 (fun b1 => ?_))
      refine SOps.st rfl rfl (Yv.assign rfl).yl ?_
      refine SOps.one rfl (One.store (i := 0) (off := 0) (vs := [_, _, _, _, _, _]) (cs' := [_, _, _, _, _, _]) (H' := [_]) lay25 rfl rfl rfl rfl rfl rfl rfl rfl rfl rfl ?_)
      refine SOps.nil ?_
      refine Run.seq ?_
      refine Run.quiet (fun _ => ⟨by kernel_rfl, by kernel_rfl⟩) ?_
      refine QOps.st rfl rfl (Yv.loadBs (i := 0) lay25 rfl rfl rfl rfl).yl ?_
      refine QOps.st rfl rfl (Yl.call callable13 (.cons rfl (.nil)) (fun w' hw' => IsEReport_spec)) ?_
      refine QOps.st rfl rfl (Yv.not rfl).yl ?_
      refine QOps.st rfl rfl (Yv.move rfl).yl ?_
      refine' QOps.or [_, _, _, _, _, _, _, _, _, _, _, _] _ (.tmp 27) rfl rfl rfl rfl rfl rfl (fun hg1 => ?_) ?_
      rotate_left
      · try replace hg1 := of_decide_eq_false hg1
        refine QOps.st rfl rfl (Yv.move rfl).yl ?_
        refine QOps.st rfl rfl (Yv.gtr rfl rfl).yl ?_
        refine QOps.st rfl rfl (Yv.move rfl).yl ?_
        refine' QOps.and [_, _, _, _, _, _, _, _] _ (.tmp 26) rfl rfl rfl rfl rfl rfl (fun hg2 => ?_) ?_
        rotate_left
        · try replace hg2 := of_decide_eq_true hg2
          refine QOps.st rfl rfl (Yv.move rfl).yl ?_
          refine QOps.st rfl rfl (Yv.move rfl).yl ?_
          refine QOps.st rfl rfl (Yv.sub rfl rfl (by omega)).yl ?_
          refine QOps.st rfl rfl (Yv.indexAddr (k - 1) el31 rfl rfl (by omega) (Rd.arg hs) (by omega)).yl ?_
          refine QOps.st rfl rfl (Yv.loadEs lay25 rfl Report.len (Rd.arg hs) (by first | omega | (simp; omega)) (by decide)).yl ?_
          refine QOps.st rfl rfl (Yv.loadBs (i := 0) lay25 rfl rfl rfl rfl).yl ?_
          refine QOps.st rfl rfl (Yl.call callable46 (.cons rfl (.cons rfl (.nil))) (fun w' hw' => compareReports_spec)) ?_
          refine QOps.st rfl rfl (Yv.geq rfl rfl).yl ?_
          exact QOps.nil rfl
        exact QOps.nil rfl
      refine QOps.nil ?_
      refine Run.cond rfl (fun hc2 => ?_) (fun hc2 => ?_)
      · try replace hc2 := of_decide_eq_true hc2
        have h2 : badR rs k = true := by rw [cmpR_ge] at hc2; exact hc2
        refine Run.seq ?_
        refine Run.quiet (by intro h; cases h) ?_
        refine QOps.st rfl rfl (Yv.assign rfl).yl ?_
        refine QOps.nil ?_
        refine Run.ret ?_
        refine retQ.of (.inr rfl) rfl (.tmp rfl .nil) (fun w' hw' => ?_)
        refine ⟨?_, hw'.bel.below⟩
        refine retB_eq ?_
        rw [file_bad (k := k) (by omega) h2]
      · try replace hc2 := of_decide_eq_false hc2
        have h2 : badR rs k = false := by rw [cmpR_ge] at hc2; exact hc2
        refine Run.skip ?_
        refine Run.quiet (by intro h; cases h) ?_
        refine QOps.st rfl rfl (Yv.succN rfl rfl (by omega)).yl ?_
        refine QOps.st rfl rfl (Yv.move rfl).yl ?_
        refine QOps.nil ?_
        refine ⟨k + 1, ?_, ?_, (SubE.cons rfl (SubE.cons rfl (SubE.cons rfl (SubE.cons rfl (SubE.nil _))))), (List.Sublist.cons _ (List.Sublist.refl _))⟩
        · exact ⟨by omega, all_succ hall h2⟩
        · first | omega | (dsimp only; omega)
    · try replace hc1 := of_decide_eq_false hc1
      refine Run.exit ?_
      refine Run.seq ?_
      refine Run.quiet (by intro h; cases h) ?_
      refine QOps.st rfl rfl (Yv.move rfl).yl ?_
      refine QOps.st rfl rfl (Yv.lenS el31s rfl).yl ?_
      refine QOps.st rfl rfl (Yv.leq rfl rfl).yl ?_
      refine QOps.st rfl rfl (Yv.assign rfl).yl ?_
      refine QOps.nil ?_
      refine Run.ret ?_
      refine retQ.of (.inr rfl) rfl (.tmp rfl .nil) (fun w' hw' => ?_)
      refine ⟨?_, hw'.bel.below⟩
      refine retB_eq ?_
      rw [file_good (fun i hi => hall i (by omega))]

theorem l20File_spec {w : World} {A : Option Addr} {c : Nat} {rs : List Report} (hs : Sl w 6 A rs.length c (rs.flatMap Report.enc)) : Calls Try.prog 45 #[.slice A rs.length c] w (RetB w (.bool (isFile rs))) := by
  have hmx := Sl.lenle hs
  refine calls_of_run (vs := [_]) (L := [(0, _)]) (n := 36) (F := []) (H := []) Try.func45 rfl rfl rfl rfl (HOk.start _) ?_
  refine Run.seq ?_
  refine Run.quiet (by intro h; cases h) ?_
  refine QOps.st rfl rfl (Yv.assign rfl).yl ?_
  refine QOps.nil ?_
  refine Run.seq ?_
  refine Run.seq ?_
  refine Run.quiet (by intro h; cases h) ?_
  refine QOps.st rfl rfl (Yv.assign rfl).yl ?_
  refine QOps.nil ?_
  refine Run.block ?_
  refine Run.loop (S := Nat) (fun s => match s with | k => k ≤ rs.length ∧ ∀ i, i < k → badR rs i = false) (fun s => match s with | k => [(0, .slice A rs.length c), (3, .int .i64 (k : Int))]) (fun s => match s with | k => []) (fun s => match s with | k => rs.length - k) 0 ?_ (SubE.cons rfl (SubE.cons rfl (SubE.nil _))) (List.Sublist.refl _) ?_
  · exact ⟨by omega, fun i hi => by omega⟩
  · rintro k ⟨hk, hall⟩
    show Run _ _ _ _ _ [(0, .slice A rs.length c), (3, .int .i64 (k : Int))] [] _
    refine Run.seq ?_
    refine Run.seq ?_
    refine Run.quiet (by intro h; cases h) ?_
    refine QOps.st rfl rfl (Yv.move rfl).yl ?_
    refine QOps.st rfl rfl (Yv.move rfl).yl ?_
    refine QOps.st rfl rfl (Yv.lenS el31s rfl).yl ?_
    refine QOps.st rfl rfl (Yv.lss rfl rfl).yl ?_
    refine QOps.nil ?_
    refine Run.cond rfl (fun hc1 => ?_) (fun hc1 => ?_)
    · try replace hc1 := of_decide_eq_true hc1
      refine Run.skip ?_
      refine Run.seq ?_
      refine Run.block ?_
      refine Run.seq ?_
      refine Run.quiet (fun _ => ⟨by kernel_rfl, by kernel_rfl⟩) ?_
      refine QOps.st rfl rfl (Yv.move rfl).yl ?_
      refine QOps.st rfl rfl (Yv.move rfl).yl ?_
      refine QOps.st rfl rfl (Yv.indexAddr k el31 rfl rfl rfl (Rd.arg hs) (by omega)).yl ?_
      refine QOps.st rfl rfl (Yv.loadEs lay25 rfl Report.len (Rd.arg hs) (by first | omega | (simp; omega)) (by decide)).yl ?_
      refine QOps.st rfl rfl (Yl.call callable41 (.cons rfl (.nil)) (fun w' hw' => l20One_spec)) ?_
      refine QOps.st rfl rfl (Yv.not rfl).yl ?_
      refine QOps.st rfl rfl (Yv.move rfl).yl ?_
      refine' QOps.or [_, _, _, _, _, _, _, _, _, _, _, _, _, _, _] _ (.tmp 31) rfl rfl rfl rfl rfl rfl (fun hg1 => ?_) ?_
      rotate_left
      · try replace hg1 := of_decide_eq_false hg1
        refine QOps.st rfl rfl (Yv.move rfl).yl ?_
        refine QOps.st rfl rfl (Yv.gtr rfl rfl).yl ?_
        refine QOps.st rfl rfl (Yv.move rfl).yl ?_
        refine' QOps.and [_, _, _, _, _, _, _, _, _, _, _] _ (.tmp 30) rfl rfl rfl rfl rfl rfl (fun hg2 => ?_) ?_
        rotate_left
        · try replace hg2 := of_decide_eq_true hg2
          refine QOps.st rfl rfl (Yv.move rfl).yl ?_
          refine QOps.st rfl rfl (Yv.move rfl).yl ?_
          refine QOps.st rfl rfl (Yv.sub rfl rfl (by omega)).yl ?_
          refine QOps.st rfl rfl (Yv.indexAddr (k - 1) el31 rfl rfl (by omega) (Rd.arg hs) (by omega)).yl ?_
          refine QOps.st rfl rfl (Yv.loadEs lay25 rfl Report.len (Rd.arg hs) (by first | omega | (simp; omega)) (by decide)).yl ?_
          refine QOps.st rfl rfl (Yv.move rfl).yl ?_
          refine QOps.st rfl rfl (Yv.move rfl).yl ?_
          refine QOps.st rfl rfl (Yv.indexAddr k el31 rfl rfl rfl (Rd.arg hs) (by omega)).yl ?_
          refine QOps.st rfl rfl (Yv.loadEs lay25 rfl Report.len (Rd.arg hs) (by first | omega | (simp; omega)) (by decide)).yl ?_
          refine QOps.st rfl rfl (Yl.call callable56 (.cons rfl (.cons rfl (.nil))) (fun w' hw' => l20Before_spec)) ?_
          refine QOps.st rfl rfl (Yv.not rfl).yl ?_
          exact QOps.nil rfl
        exact QOps.nil rfl
      refine QOps.nil ?_
      refine Run.cond rfl (fun hc2 => ?_) (fun hc2 => ?_)
      · try replace hc2 := of_decide_eq_true hc2
        have h2 : badR rs k = true := by exact hc2
        refine Run.seq ?_
        refine Run.quiet (by intro h; cases h) ?_
        refine QOps.st rfl rfl (Yv.assign rfl).yl ?_
        refine QOps.nil ?_
        refine Run.ret ?_
        refine retQ.of (.inr rfl) rfl (.tmp rfl .nil) (fun w' hw' => ?_)
        refine ⟨?_, hw'.bel.below⟩
        refine retB_eq ?_
        rw [file_bad (k := k) (by omega) h2]
      · try replace hc2 := of_decide_eq_false hc2
        have h2 : badR rs k = false := by exact hc2
        refine Run.skip ?_
        refine Run.quiet (by intro h; cases h) ?_
        refine QOps.st rfl rfl (Yv.move rfl).yl ?_
        refine QOps.st rfl rfl (Yv.succN rfl rfl (by omega)).yl ?_
        refine QOps.st rfl rfl (Yv.assign rfl).yl ?_
        refine QOps.nil ?_
        refine ⟨k + 1, ?_, ?_, (SubE.cons rfl (SubE.cons rfl (SubE.nil _))), (List.Sublist.refl _)⟩
        · exact ⟨by omega, all_succ hall h2⟩
        · first | omega | (dsimp only; omega)
    · try replace hc1 := of_decide_eq_false hc1
      refine Run.exit ?_
      refine Run.seq ?_
      refine Run.quiet (by intro h; cases h) ?_
      refine QOps.st rfl rfl (Yv.move rfl).yl ?_
      refine QOps.st rfl rfl (Yv.lenS el31s rfl).yl ?_
      refine QOps.st rfl rfl (Yv.leq rfl rfl).yl ?_
      refine QOps.st rfl rfl (Yv.assign rfl).yl ?_
      refine QOps.nil ?_
      refine Run.ret ?_
      refine retQ.of (.inr rfl) rfl (.tmp rfl .nil) (fun w' hw' => ?_)
      refine ⟨?_, hw'.bel.below⟩
      refine retB_eq ?_
      rw [file_good (fun i hi => hall i (by omega))]

theorem sIsFile_spec {w : World} {A : Option Addr} {c : Nat} {rs : List Report} (hs : Sl w 6 A rs.length c (rs.flatMap Report.enc)) : Calls Try.prog 15 #[.slice A rs.length c] w (RetB w (.bool (isFile rs))) := by
  refine calls_of_run (vs := [_]) (L := [(0, _)]) (n := 5) (F := []) (H := []) Try.func15 rfl rfl rfl rfl (HOk.start _) ?_
  refine Run.seq ?_
  refine Run.quiet (by intro h; cases h) ?_
  refine QOps.st rfl rfl (Yv.assign rfl).yl ?_
  refine QOps.nil ?_
  refine Run.seq ?_
  refine Run.quiet (by intro h; cases h) ?_
  refine QOps.st rfl rfl (Yv.move rfl).yl ?_
  refine QOps.st rfl rfl (Yl.call callable45 (.cons rfl (.nil)) (fun w' hw' => l20File_spec ((Rd.arg hs) w' hw'))) ?_
  refine QOps.st rfl rfl (Yv.assign rfl).yl ?_
  refine QOps.nil ?_
  refine Run.ret ?_
  refine retQ.of (.inr rfl) rfl (.tmp rfl .nil) (fun w' hw' => ?_)
  refine ⟨?_, hw'.bel.below⟩
  exact rfl

/-- The index of the last one of the first k reports that is of a vessel, or -1. -/
def lastTo (rs : List Report) (v : Int) : Nat → Int
  | 0 => -1
  | k + 1 => if (nth rs k).vessel = v then (k : Int) else lastTo rs v k
theorem lastTo_range {rs : List Report} {v : Int} : ∀ {k : Nat}, -1 ≤ lastTo rs v k ∧ lastTo rs v k < (k : Int)
  | 0 => ⟨Int.le_refl _, by simp [lastTo]⟩
  | k + 1 => by
    have ih := lastTo_range (rs := rs) (v := v) (k := k)
    rw [lastTo]
    split <;> omega
theorem lastIndex_spec {w : World} {A : Option Addr} {c : Nat} {rs : List Report} {v : Int} (hs : Sl w 6 A rs.length c (rs.flatMap Report.enc)) : Calls Try.prog 48 #[.slice A rs.length c, .int .i64 v] w (RetB w (.int .i64 (lastTo rs v rs.length))) := by
  have hmx := Sl.lenle hs
  refine calls_of_run (vs := [_, _]) (L := [(0, _), (1, _)]) (n := 22) (F := []) (H := []) Try.func48 rfl rfl rfl rfl (HOk.start _) ?_
  refine Run.seq ?_
  refine Run.quiet (by intro h; cases h) ?_
  refine QOps.st rfl rfl (Yv.assign rfl).yl ?_
  refine QOps.nil ?_
  refine Run.seq ?_
  refine Run.quiet (by intro h; cases h) ?_
  refine QOps.st rfl rfl (Yv.assign rfl).yl ?_
  refine QOps.nil ?_
  refine Run.seq ?_
  refine Run.seq ?_
  refine Run.quiet (by intro h; cases h) ?_
  refine QOps.st rfl rfl (Yv.move rfl).yl ?_
  refine QOps.st rfl rfl (Yv.lenS el31s rfl).yl ?_
  refine QOps.st rfl rfl (Yv.move rfl).yl ?_
  refine QOps.nil ?_
  refine Run.block ?_
  refine Run.loop (S := Nat × Int) (fun s => match s with | (k, x) => k ≤ rs.length ∧ x = lastTo rs v k) (fun s => match s with | (k, x) => [(1, .int .i64 v), (5, .int .i64 x), (8, .slice A rs.length c), (9, .int .i64 (rs.length : Int)), (10, .int .i64 (k : Int))]) (fun s => match s with | (k, x) => []) (fun s => match s with | (k, x) => rs.length - k) (0, -1) ?_ (SubE.cons rfl (SubE.cons rfl (SubE.cons rfl (SubE.cons rfl (SubE.cons rfl (SubE.nil _)))))) (List.Sublist.refl _) ?_
  · exact ⟨by omega, rfl⟩
  · rintro ⟨k, x⟩ ⟨hk, hx⟩
    show Run _ _ _ _ _ [(1, .int .i64 v), (5, .int .i64 x), (8, .slice A rs.length c), (9, .int .i64 (rs.length : Int)), (10, .int .i64 (k : Int))] [] _
    refine Run.seq ?_
    refine Run.quiet (by intro h; cases h) ?_
    refine QOps.st rfl rfl (Yv.lss rfl rfl).yl ?_
    refine QOps.nil ?_
    refine Run.seq ?_
    refine Run.cond rfl (fun hc1 => ?_) (fun hc1 => ?_)
    · try replace hc1 := of_decide_eq_true hc1
      refine Run.skip ?_
      refine Run.seq ?_
      refine Run.block ?_
      refine Run.seq ?_
      refine Run.ops ?_
      refine SOps.st rfl rfl (Yv.move rfl).yl ?_
      refine SOps.st rfl rfl (Yv.indexAddr k el31 rfl rfl rfl (Rd.arg hs) (by omega)).yl ?_
      refine SOps.st rfl rfl (Yv.loadEs lay25 rfl Report.len (Rd.arg hs) (by first | omega | (simp; omega)) (by decide)).yl ?_
      refine SOps.one rfl (One.alloc rfl zero25 (fun b1 => ?_))
      refine SOps.st rfl rfl (Yv.assign rfl).yl ?_
      refine SOps.one rfl (One.store (i := 0) (off := 0) (vs := [_, _, _, _, _, _]) (cs' := [_, _, _, _, _, _]) (H' := [_]) lay25 rfl rfl rfl rfl rfl rfl rfl rfl rfl rfl ?_)
      refine SOps.nil ?_
      refine Run.seq ?_
      refine Run.quiet (by intro h; cases h) ?_
      refine QOps.st rfl rfl (Yv.fieldAddr fld25_0 rfl).yl ?_
      refine QOps.st rfl rfl (Yv.loadB (i := 0) lay3 rfl rfl rfl rfl).yl ?_
      refine QOps.st rfl rfl (Yv.move rfl).yl ?_
      refine QOps.st rfl rfl (Yv.eqI rfl rfl).yl ?_
      refine QOps.nil ?_
      refine Run.cond rfl (fun hc2 => ?_) (fun hc2 => ?_)
      · try replace hc2 := of_decide_eq_true hc2
        refine Run.quiet (by intro h; cases h) ?_
        refine QOps.st rfl rfl (Yv.move rfl).yl ?_
        refine QOps.st rfl rfl (Yv.assign rfl).yl ?_
        refine QOps.nil ?_
        refine Run.quiet (by intro h; cases h) ?_
        refine QOps.st rfl rfl (Yv.succN rfl rfl (by omega)).yl ?_
        refine QOps.st rfl rfl (Yv.move rfl).yl ?_
        refine QOps.nil ?_
        refine ⟨(k + 1, _), ?_, ?_, (SubE.cons rfl (SubE.cons rfl (SubE.cons rfl (SubE.cons rfl (SubE.cons rfl (SubE.nil _)))))), (List.Sublist.cons _ (List.Sublist.refl _))⟩
        · exact ⟨by omega, by rw [lastTo, if_pos hc2]⟩
        · first | omega | (dsimp only; omega)
      · try replace hc2 := of_decide_eq_false hc2
        refine Run.skip ?_
        refine Run.quiet (by intro h; cases h) ?_
        refine QOps.st rfl rfl (Yv.succN rfl rfl (by omega)).yl ?_
        refine QOps.st rfl rfl (Yv.move rfl).yl ?_
        refine QOps.nil ?_
        refine ⟨(k + 1, x), ?_, ?_, (SubE.cons rfl (SubE.cons rfl (SubE.cons rfl (SubE.cons rfl (SubE.cons rfl (SubE.nil _)))))), (List.Sublist.cons _ (List.Sublist.refl _))⟩
        · exact ⟨by omega, by rw [lastTo, if_neg hc2, hx]⟩
        · first | omega | (dsimp only; omega)
    · try replace hc1 := of_decide_eq_false hc1
      refine Run.exit ?_
      refine Run.seq ?_
      refine Run.quiet (by intro h; cases h) ?_
      refine QOps.st rfl rfl (Yv.move rfl).yl ?_
      refine QOps.st rfl rfl (Yv.assign rfl).yl ?_
      refine QOps.nil ?_
      refine Run.ret ?_
      obtain rfl : k = rs.length := by omega
      subst hx
      refine retQ.of (.inr rfl) rfl (.tmp rfl .nil) (fun w' hw' => ?_)
      refine ⟨?_, hw'.bel.below⟩
      exact rfl

theorem l20Last_spec {w : World} {A : Option Addr} {c : Nat} {rs : List Report} {v : Int} (hs : Sl w 6 A rs.length c (rs.flatMap Report.enc)) : Calls Try.prog 47 #[.slice A rs.length c, .int .i64 v] w (RetB w (.int .i64 (lastTo rs v rs.length))) := by
  have hmx := Sl.lenle hs
  refine calls_of_run (vs := [_, _]) (L := [(0, _), (1, _)]) (n := 22) (F := []) (H := []) Try.func47 rfl rfl rfl rfl (HOk.start _) ?_
  refine Run.seq ?_
  refine Run.quiet (by intro h; cases h) ?_
  refine QOps.st rfl rfl (Yv.assign rfl).yl ?_
  refine QOps.nil ?_
  refine Run.seq ?_
  refine Run.quiet (by intro h; cases h) ?_
  refine QOps.st rfl rfl (Yv.assign rfl).yl ?_
  refine QOps.nil ?_
  refine Run.seq ?_
  refine Run.seq ?_
  refine Run.quiet (by intro h; cases h) ?_
  refine QOps.st rfl rfl (Yv.assign rfl).yl ?_
  refine QOps.nil ?_
  refine Run.block ?_
  refine Run.loop (S := Nat × Int) (fun s => match s with | (k, x) => k ≤ rs.length ∧ x = lastTo rs v k) (fun s => match s with | (k, x) => [(0, .slice A rs.length c), (1, .int .i64 v), (5, .int .i64 x), (6, .int .i64 (k : Int))]) (fun s => match s with | (k, x) => []) (fun s => match s with | (k, x) => rs.length - k) (0, -1) ?_ (SubE.cons rfl (SubE.cons rfl (SubE.cons rfl (SubE.cons rfl (SubE.nil _))))) (List.Sublist.refl _) ?_
  · exact ⟨by omega, rfl⟩
  · rintro ⟨k, x⟩ ⟨hk, hx⟩
    show Run _ _ _ _ _ [(0, .slice A rs.length c), (1, .int .i64 v), (5, .int .i64 x), (6, .int .i64 (k : Int))] [] _
    refine Run.seq ?_
    refine Run.seq ?_
    refine Run.quiet (by intro h; cases h) ?_
    refine QOps.st rfl rfl (Yv.move rfl).yl ?_
    refine QOps.st rfl rfl (Yv.move rfl).yl ?_
    refine QOps.st rfl rfl (Yv.lenS el31s rfl).yl ?_
    refine QOps.st rfl rfl (Yv.lss rfl rfl).yl ?_
    refine QOps.nil ?_
    refine Run.cond rfl (fun hc1 => ?_) (fun hc1 => ?_)
    · try replace hc1 := of_decide_eq_true hc1
      refine Run.skip ?_
      refine Run.seq ?_
      refine Run.block ?_
      refine Run.seq ?_
      refine Run.quiet (by intro h; cases h) ?_
      refine QOps.st rfl rfl (Yv.move rfl).yl ?_
      refine QOps.st rfl rfl (Yv.move rfl).yl ?_
      refine QOps.st rfl rfl (Yv.indexAddr k el31 rfl rfl rfl (Rd.arg hs) (by omega)).yl ?_
      refine QOps.st rfl rfl (Yv.fieldAddr fld25_0 rfl).yl ?_
      refine QOps.st rfl rfl (Yv.loadF lay3 rfl Report.len (Rd.arg hs) (by first | omega | (simp; omega)) (by decide) rfl).yl ?_
      refine QOps.st rfl rfl (Yv.move rfl).yl ?_
      refine QOps.st rfl rfl (Yv.eqI rfl rfl).yl ?_
      refine QOps.nil ?_
      refine Run.cond rfl (fun hc2 => ?_) (fun hc2 => ?_)
      · try replace hc2 := of_decide_eq_true hc2
        refine Run.quiet (by intro h; cases h) ?_
        refine QOps.st rfl rfl (Yv.move rfl).yl ?_
        refine QOps.st rfl rfl (Yv.assign rfl).yl ?_
        refine QOps.nil ?_
        refine Run.quiet (by intro h; cases h) ?_
        refine QOps.st rfl rfl (Yv.move rfl).yl ?_
        refine QOps.st rfl rfl (Yv.succN rfl rfl (by omega)).yl ?_
        refine QOps.st rfl rfl (Yv.assign rfl).yl ?_
        refine QOps.nil ?_
        refine ⟨(k + 1, _), ?_, ?_, (SubE.cons rfl (SubE.cons rfl (SubE.cons rfl (SubE.cons rfl (SubE.nil _))))), (List.Sublist.refl _)⟩
        · exact ⟨by omega, by rw [lastTo, if_pos hc2]⟩
        · first | omega | (dsimp only; omega)
      · try replace hc2 := of_decide_eq_false hc2
        refine Run.skip ?_
        refine Run.quiet (by intro h; cases h) ?_
        refine QOps.st rfl rfl (Yv.move rfl).yl ?_
        refine QOps.st rfl rfl (Yv.succN rfl rfl (by omega)).yl ?_
        refine QOps.st rfl rfl (Yv.assign rfl).yl ?_
        refine QOps.nil ?_
        refine ⟨(k + 1, x), ?_, ?_, (SubE.cons rfl (SubE.cons rfl (SubE.cons rfl (SubE.cons rfl (SubE.nil _))))), (List.Sublist.refl _)⟩
        · exact ⟨by omega, by rw [lastTo, if_neg hc2, hx]⟩
        · first | omega | (dsimp only; omega)
    · try replace hc1 := of_decide_eq_false hc1
      refine Run.exit ?_
      refine Run.seq ?_
      refine Run.quiet (by intro h; cases h) ?_
      refine QOps.st rfl rfl (Yv.move rfl).yl ?_
      refine QOps.st rfl rfl (Yv.assign rfl).yl ?_
      refine QOps.nil ?_
      refine Run.ret ?_
      obtain rfl : k = rs.length := by omega
      subst hx
      refine retQ.of (.inr rfl) rfl (.tmp rfl .nil) (fun w' hw' => ?_)
      refine ⟨?_, hw'.bel.below⟩
      exact rfl

theorem FnExactIsEReport_spec {w : World} {r : Report} : Calls Try.prog 3 #[.agg r.enc.toArray] w (RetB w (.bool true)) := by
  refine calls_of_run (vs := [_]) (L := [(0, _)]) (n := 14) (F := []) (H := []) Try.func3 rfl rfl rfl rfl (HOk.start _) ?_
  refine Run.seq ?_
  refine Run.ops ?_
  refine SOps.one rfl (One.box (cs := [_, _, _, _, _, _]) rfl rfl rfl (fun b1 => ?_))
  refine SOps.st rfl rfl (Yv.assign rfl).yl ?_
  refine SOps.nil ?_
  refine Run.seq ?_
  refine Run.quiet (by intro h; cases h) ?_
  refine QOps.st rfl rfl (Yv.loadBs (i := 0) lay23 rfl rfl rfl rfl).yl ?_
  refine QOps.st rfl rfl (Yl.call callable12 (.cons rfl (.nil)) (fun w' hw' => toEReport_spec)) ?_
  refine QOps.st rfl rfl (Yl.call callable11 (.cons rfl (.nil)) (fun w' hw' => sIsEReport_spec)) ?_
  refine QOps.st rfl rfl (Yv.assign rfl).yl ?_
  refine QOps.nil ?_
  refine Run.seq ?_
  refine Run.quiet (by intro h; cases h) ?_
  refine QOps.st rfl rfl (Yv.loadBs (i := 0) lay23 rfl rfl rfl rfl).yl ?_
  refine QOps.st rfl rfl (Yl.call callable12 (.cons rfl (.nil)) (fun w' hw' => toEReport_spec)) ?_
  refine QOps.st rfl rfl (Yl.call callable13 (.cons rfl (.nil)) (fun w' hw' => IsEReport_spec)) ?_
  refine QOps.st rfl rfl (Yv.assign rfl).yl ?_
  refine QOps.nil ?_
  refine Run.seq ?_
  refine Run.seq ?_
  refine Run.quiet (by intro h; cases h) ?_
  refine QOps.st rfl rfl (Yv.move rfl).yl ?_
  refine QOps.st rfl rfl (Yv.move rfl).yl ?_
  refine QOps.st rfl rfl (Yv.neB bool4 rfl rfl).yl ?_
  refine QOps.nil ?_
  refine Run.cond rfl (fun hc1 => ?_) (fun hc1 => ?_)
  · exfalso
    simp at hc1
  · try replace hc1 := of_decide_eq_false hc1
    refine Run.skip ?_
    refine Run.seq ?_
    refine Run.quiet (by intro h; cases h) ?_
    refine QOps.st rfl rfl (Yv.assign rfl).yl ?_
    refine QOps.nil ?_
    refine Run.ret ?_
    refine retQ.of (.inr rfl) rfl (.tmp rfl .nil) (fun w' hw' => ?_)
    refine ⟨?_, hw'.bel.below⟩
    exact rfl
theorem FnExactIsFile_spec {w : World} {A : Option Addr} {c : Nat} {rs : List Report}  (hs : Sl w 6 A rs.length c (rs.flatMap Report.enc)) (hb : 48 * rs.length ≤ 281474976710656) :
    Calls Try.prog 4 #[.slice A rs.length c] w (RetB w (.bool true)) := by
  refine calls_of_run (vs := [_]) (L := [(0, _)]) (n := 27) (F := []) (H := []) Try.func4 rfl rfl rfl rfl (HOk.start _) ?_
  refine Run.seq ?_
  refine Run.quiet (by intro h; cases h) ?_
  refine QOps.st rfl rfl (Yv.assign rfl).yl ?_
  refine QOps.nil ?_
  refine Run.seq ?_
  refine Run.quiet (by intro h; cases h) ?_
  refine QOps.st rfl rfl (Yv.assign rfl).yl ?_
  refine QOps.nil ?_
  refine Run.seq ?_
  refine Run.quiet (by intro h; cases h) ?_
  refine QOps.st rfl rfl (Yv.move rfl).yl ?_
  refine QOps.st rfl rfl (Yv.move rfl).yl ?_
  refine QOps.st rfl rfl (Yl.call callable14 (.cons rfl (.cons rfl (.nil))) (fun w' hw' => szEReportS_spec (by omega) (by omega) (by omega))) ?_
  refine QOps.st rfl rfl (Yv.assign rfl).yl ?_
  refine QOps.nil ?_
  refine Run.seq ?_
  refine Run.seq ?_
  refine Run.quiet (by intro h; cases h) ?_
  refine QOps.st rfl rfl (Yv.move rfl).yl ?_
  refine QOps.st rfl rfl (Yv.lss rfl rfl).yl ?_
  refine QOps.nil ?_
  refine Run.cond rfl (fun hc1 => ?_) (fun hc1 => ?_)
  · try replace hc1 := of_decide_eq_true hc1
    refine Run.seq ?_
    refine Run.quiet (by intro h; cases h) ?_
    refine QOps.st rfl rfl (Yv.assign rfl).yl ?_
    refine QOps.nil ?_
    refine Run.ret ?_
    refine retQ.of (.inr rfl) rfl (.tmp rfl .nil) (fun w' hw' => ?_)
    refine ⟨?_, hw'.bel.below⟩
    exact rfl
  · try replace hc1 := of_decide_eq_false hc1
    refine Run.skip ?_
    refine Run.seq ?_
    refine Run.ops ?_
    refine SOps.st rfl rfl (Yv.move rfl).yl ?_
    refine SOps.one rfl (One.callRow rfl callable16 (.cons rfl (.nil)) (fun w' hw' => toEReportS_spec ((Rd.arg hs) w' hw') (by omega)) (fun A1 c1 => ?_))
    refine SOps.st rfl rfl (Yl.call callable15 (.cons rfl (.nil)) (fun w' hw' => sIsFile_spec ((Rd.row (i := 0) rfl) w' hw'))) ?_
    refine SOps.st rfl rfl (Yv.assign rfl).yl ?_
    refine SOps.nil ?_
    refine Run.seq ?_
    refine Run.ops ?_
    refine SOps.st rfl rfl (Yv.move rfl).yl ?_
    refine SOps.one rfl (One.callRow rfl callable16 (.cons rfl (.nil)) (fun w' hw' => toEReportS_spec ((Rd.arg hs) w' hw') (by omega)) (fun A2 c2 => ?_))
    refine SOps.st rfl rfl (Yv.assign rfl).yl ?_
    refine SOps.nil ?_
    refine Run.seq ?_
    refine Run.quiet (by intro h; cases h) ?_
    refine QOps.st rfl rfl (Yv.move rfl).yl ?_
    refine QOps.st rfl rfl (Yl.call callable17 (.cons rfl (.nil)) (fun w' hw' => IsFile_spec ((Rd.row (i := 0) rfl) w' hw'))) ?_
    refine QOps.st rfl rfl (Yv.assign rfl).yl ?_
    refine QOps.nil ?_
    refine Run.seq ?_
    refine Run.seq ?_
    refine Run.quiet (by intro h; cases h) ?_
    refine QOps.st rfl rfl (Yv.move rfl).yl ?_
    refine QOps.st rfl rfl (Yv.move rfl).yl ?_
    refine QOps.st rfl rfl (Yv.neB bool4 rfl rfl).yl ?_
    refine QOps.nil ?_
    refine Run.cond rfl (fun hc2 => ?_) (fun hc2 => ?_)
    · exfalso
      first | (simp at hc2; done) | (simp at hc2; omega) | omega
    · try replace hc2 := of_decide_eq_false hc2
      refine Run.skip ?_
      refine Run.seq ?_
      refine Run.seq ?_
      refine Run.ops ?_
      refine SOps.st rfl rfl (Yv.move rfl).yl ?_
      refine SOps.st rfl rfl (Yv.move rfl).yl ?_
      refine SOps.one rfl (One.callRow rfl callable16 (.cons rfl (.nil)) (fun w' hw' => toEReportS_spec ((Rd.arg hs) w' hw') (by omega)) (fun A3 c3 => ?_))
      refine SOps.st rfl rfl (Yl.call callable18 (.cons rfl (.cons rfl (.nil))) (fun w' hw' => eqEReportS_spec ((Rd.row (i := 1) rfl) w' hw') ((Rd.row (i := 0) rfl) w' hw'))) ?_
      refine SOps.st rfl rfl (Yv.not rfl).yl ?_
      refine SOps.nil ?_
      refine Run.cond rfl (fun hc3 => ?_) (fun hc3 => ?_)
      · exfalso
        first | (simp at hc3; done) | (simp at hc3; omega) | omega
      · try replace hc3 := of_decide_eq_false hc3
        refine Run.skip ?_
        refine Run.seq ?_
        refine Run.quiet (by intro h; cases h) ?_
        refine QOps.st rfl rfl (Yv.assign rfl).yl ?_
        refine QOps.nil ?_
        refine Run.ret ?_
        refine retQ.of (.inr rfl) rfl (.tmp rfl .nil) (fun w' hw' => ?_)
        refine ⟨?_, hw'.bel.below⟩
        exact rfl

end Go.Proofs.Ytlpgcbkialcjcaa
