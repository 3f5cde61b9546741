/- Fixes: where a vessel may be at a minute, the span, the minutes of passing. Conditions: none. -/
import Derived.Test.YtliealfihglkmaaPos3
namespace Go.Proofs.Ytliealfihglkmaa
open Go.RowKit
structure Span where
  low : Int
  high : Int
instance : Inhabited Span := ⟨⟨0, 0⟩⟩
def Span.enc (f : Span) : List Value := [.int .i64 f.low, .int .i64 f.high]
theorem Span.len (f : Span) : f.enc.length = 2 := rfl
theorem Span.one (f : Span) : f.enc.all Value.oneCell' = true := rfl

theorem eqSpan_spec {w : World} {f : Span} : Calls Try.prog 27 #[.agg f.enc.toArray, .agg f.enc.toArray] w (RetB w (.bool true)) := by
  refine calls_of_run (vs := [_, _]) (L := [(0, _), (1, _)]) (n := 15) (F := []) (H := []) Try.func27 rfl rfl rfl rfl (HOk.start _) ?_
  refine Run.seq ?_
  refine Run.ops ?_
  refine SOps.one rfl (One.box (cs := [_, _]) rfl rfl rfl (fun b1 => ?_))
  refine SOps.one rfl (One.box (cs := [_, _]) rfl rfl rfl (fun b2 => ?_))
  refine SOps.st rfl rfl (Yv.assign rfl).yl ?_
  refine SOps.nil ?_
  refine Run.seq ?_
  refine Run.seq ?_
  refine Run.quiet (by intro h; cases h) ?_
  refine QOps.st rfl rfl (Yv.fieldAddr fld37_0 rfl).yl ?_
  refine QOps.st rfl rfl (Yv.loadB (i := 1) lay3 rfl rfl rfl rfl).yl ?_
  refine QOps.st rfl rfl (Yv.fieldAddr fld37_0 rfl).yl ?_
  refine QOps.st rfl rfl (Yv.loadB (i := 0) lay3 rfl rfl rfl rfl).yl ?_
  refine QOps.st rfl rfl (Yv.neI rfl rfl).yl ?_
  refine QOps.nil ?_
  refine Run.cond rfl (fun hc1 => ?_) (fun hc1 => ?_)
  · exfalso
    simp at hc1
  · try replace hc1 := of_decide_eq_false hc1
    refine Run.skip ?_
    refine Run.seq ?_
    refine Run.seq ?_
    refine Run.quiet (by intro h; cases h) ?_
    refine QOps.st rfl rfl (Yv.fieldAddr fld37_1 rfl).yl ?_
    refine QOps.st rfl rfl (Yv.loadB (i := 1) lay3 rfl rfl rfl rfl).yl ?_
    refine QOps.st rfl rfl (Yv.fieldAddr fld37_1 rfl).yl ?_
    refine QOps.st rfl rfl (Yv.loadB (i := 0) lay3 rfl rfl rfl rfl).yl ?_
    refine QOps.st rfl rfl (Yv.neI rfl rfl).yl ?_
    refine QOps.nil ?_
    refine Run.cond rfl (fun hc2 => ?_) (fun hc2 => ?_)
    · exfalso
      simp at hc2
    · try replace hc2 := of_decide_eq_false hc2
      refine Run.skip ?_
      refine Run.seq ?_
      refine Run.quiet (by intro h; cases h) ?_
      refine QOps.st rfl rfl (Yv.assign rfl).yl ?_
      refine QOps.nil ?_
      refine Run.ret ?_
      refine retQ.of (.inr rfl) rfl (.tmp rfl .nil) (fun w' hw' => ?_)
      refine ⟨?_, hw'.bel.below⟩
      exact rfl

structure Interval where
  start : Int
  stop : Int
instance : Inhabited Interval := ⟨⟨0, 0⟩⟩
def Interval.enc (f : Interval) : List Value := [.int .i64 f.start, .int .i64 f.stop]
theorem Interval.len (f : Interval) : f.enc.length = 2 := rfl
theorem Interval.one (f : Interval) : f.enc.all Value.oneCell' = true := rfl

theorem eqInterval_spec {w : World} {f : Interval} : Calls Try.prog 39 #[.agg f.enc.toArray, .agg f.enc.toArray] w (RetB w (.bool true)) := by
  refine calls_of_run (vs := [_, _]) (L := [(0, _), (1, _)]) (n := 15) (F := []) (H := []) Try.func39 rfl rfl rfl rfl (HOk.start _) ?_
  refine Run.seq ?_
  refine Run.ops ?_
  refine SOps.one rfl (One.box (cs := [_, _]) rfl rfl rfl (fun b1 => ?_))
  refine SOps.one rfl (One.box (cs := [_, _]) rfl rfl rfl (fun b2 => ?_))
  refine SOps.st rfl rfl (Yv.assign rfl).yl ?_
  refine SOps.nil ?_
  refine Run.seq ?_
  refine Run.seq ?_
  refine Run.quiet (by intro h; cases h) ?_
  refine QOps.st rfl rfl (Yv.fieldAddr fld54_0 rfl).yl ?_
  refine QOps.st rfl rfl (Yv.loadB (i := 1) lay3 rfl rfl rfl rfl).yl ?_
  refine QOps.st rfl rfl (Yv.fieldAddr fld54_0 rfl).yl ?_
  refine QOps.st rfl rfl (Yv.loadB (i := 0) lay3 rfl rfl rfl rfl).yl ?_
  refine QOps.st rfl rfl (Yv.neI rfl rfl).yl ?_
  refine QOps.nil ?_
  refine Run.cond rfl (fun hc1 => ?_) (fun hc1 => ?_)
  · exfalso
    simp at hc1
  · try replace hc1 := of_decide_eq_false hc1
    refine Run.skip ?_
    refine Run.seq ?_
    refine Run.seq ?_
    refine Run.quiet (by intro h; cases h) ?_
    refine QOps.st rfl rfl (Yv.fieldAddr fld54_1 rfl).yl ?_
    refine QOps.st rfl rfl (Yv.loadB (i := 1) lay3 rfl rfl rfl rfl).yl ?_
    refine QOps.st rfl rfl (Yv.fieldAddr fld54_1 rfl).yl ?_
    refine QOps.st rfl rfl (Yv.loadB (i := 0) lay3 rfl rfl rfl rfl).yl ?_
    refine QOps.st rfl rfl (Yv.neI rfl rfl).yl ?_
    refine QOps.nil ?_
    refine Run.cond rfl (fun hc2 => ?_) (fun hc2 => ?_)
    · exfalso
      simp at hc2
    · try replace hc2 := of_decide_eq_false hc2
      refine Run.skip ?_
      refine Run.seq ?_
      refine Run.quiet (by intro h; cases h) ?_
      refine QOps.st rfl rfl (Yv.assign rfl).yl ?_
      refine QOps.nil ?_
      refine Run.ret ?_
      refine retQ.of (.inr rfl) rfl (.tmp rfl .nil) (fun w' hw' => ?_)
      refine ⟨?_, hw'.bel.below⟩
      exact rfl

/-- How far a vessel may be from a fix. -/
def slack (f : Fix) (pace minute : Int) : Int := f.error + pace * max (minute - f.minute) (f.minute - minute)
def lowTo (fs : List Fix) (pace minute : Int) : Nat → Int
  | 0 => -100000000
  | k + 1 => max (lowTo fs pace minute k) ((nth fs k).place - slack (nth fs k) pace minute)
def highTo (fs : List Fix) (pace minute : Int) : Nat → Int
  | 0 => 100000000
  | k + 1 => min (highTo fs pace minute k) ((nth fs k).place + slack (nth fs k) pace minute)
theorem l21Span_spec {w : World} {A : Option Addr} {c : Nat} {fs : List Fix} {pace minute : Int} (hs : Sl w 3 A fs.length c (fs.flatMap Fix.enc)) (hok : AllOk fs) (h1 : 0 ≤ pace) (h2 : pace ≤ 500) (h3 : 0 ≤ minute) (h4 : minute ≤ 9999) :
    Calls Try.prog 64 #[.slice A fs.length c, .int .i64 pace, .int .i64 minute] w (RetB w (.agg #[.int .i64 (lowTo fs pace minute fs.length), .int .i64 (highTo fs pace minute fs.length)])) := by
  have hmx := Sl.lenle hs
  refine calls_of_run (vs := [_, _, _]) (L := [(0, _), (1, _), (2, _)]) (n := 52) (F := []) (H := []) Try.func64 rfl rfl rfl rfl (HOk.start _) ?_
  refine Run.seq ?_
  refine Run.ops ?_
  refine SOps.one rfl (One.alloc rfl zero37 (fun b1 => ?_))
  refine SOps.nil ?_
  refine Run.seq ?_
  refine Run.ops ?_
  refine SOps.st rfl rfl (Yv.buildG (pv := [(0, _), (1, _)]) (cs := [_, _]) (fun l => match l with | [a0_0, a1_0] => [a0_0, a1_0] | _ => []) (.cons rfl (.cons rfl (.nil))) rfl rfl (by kernel_rfl)).yl ?_
  refine SOps.one rfl (One.alloc rfl zero37 (fun b2 => ?_))
  refine SOps.one rfl (One.store (i := 0) (off := 0) (vs := [_, _]) (cs' := [_, _]) (H' := [_, _]) lay37 rfl rfl rfl rfl rfl rfl rfl rfl rfl rfl ?_)
  refine SOps.nil ?_
  refine Run.seq ?_
  refine Run.seq ?_
  refine Run.quiet (by intro h; cases h) ?_
  refine QOps.st rfl rfl (Yv.assign rfl).yl ?_
  refine QOps.nil ?_
  refine Run.block ?_
  refine Run.loop (S := Nat) (fun s => match s with | k => k ≤ fs.length) (fun s => match s with | k => [(0, .slice A fs.length c), (1, .int .i64 pace), (2, .int .i64 minute), (6, .pointer (some ⟨b1, 0, none⟩)), (7, .pointer (some ⟨b2, 0, none⟩)), (8, .int .i64 (k : Int))]) (fun s => match s with | k => [.blk b2 37 [.int .i64 (lowTo fs pace minute k), .int .i64 (highTo fs pace minute k)], .blk b1 37 [.int .i64 0, .int .i64 0]]) (fun s => match s with | k => fs.length - k) 0 ?_ (SubE.cons rfl (SubE.cons rfl (SubE.cons rfl (SubE.cons rfl (SubE.cons rfl (SubE.cons rfl (SubE.nil _))))))) (List.Sublist.refl _) ?_
  · exact Nat.zero_le _
  · rintro k hk
    show Run _ _ _ _ _ [(0, .slice A fs.length c), (1, .int .i64 pace), (2, .int .i64 minute), (6, .pointer (some ⟨b1, 0, none⟩)), (7, .pointer (some ⟨b2, 0, none⟩)), (8, .int .i64 (k : Int))] [.blk b2 37 [.int .i64 (lowTo fs pace minute k), .int .i64 (highTo fs pace minute k)], .blk b1 37 [.int .i64 0, .int .i64 0]] _
    refine Run.seq ?_
    refine Run.seq ?_
    refine Run.quiet (by intro h; cases h) ?_
    refine QOps.st rfl rfl (Yv.move rfl).yl ?_
    refine QOps.st rfl rfl (Yv.move rfl).yl ?_
    refine QOps.st rfl rfl (Yv.lenS el25s rfl).yl ?_
    refine QOps.st rfl rfl (Yv.lss rfl rfl).yl ?_
    refine QOps.nil ?_
    refine Run.cond rfl (fun hc1 => ?_) (fun hc1 => ?_)
    · try replace hc1 := of_decide_eq_true hc1
      have okk := hok k (by omega)
      unfold Fix.ok at okk
      have hm := mul_bnd (P := 500) (M := 9999) (p := pace) (m := max (minute - (nth fs k).minute) ((nth fs k).minute - minute)) h1 (by omega) (by omega) (by omega)
      refine Run.skip ?_
      refine Run.seq ?_
      refine Run.block ?_
      refine Run.seq ?_
      refine Run.ops ?_
      refine SOps.st rfl rfl (Yv.move rfl).yl ?_
      refine SOps.st rfl rfl (Yv.move rfl).yl ?_
      refine SOps.st rfl rfl (Yv.indexAddr k el25 rfl rfl rfl (Rd.arg hs) (by omega)).yl ?_
      refine SOps.st rfl rfl (Yv.loadEs lay49 rfl Fix.len (Rd.arg hs) (by first | omega | (simp; omega)) (by decide)).yl ?_
      refine SOps.one rfl (One.alloc rfl zero49 (fun b3 => ?_))
      refine SOps.one rfl (One.store (i := 0) (off := 0) (vs := [_, _, _]) (cs' := [_, _, _]) (H' := [_, _, _]) lay49 rfl rfl rfl rfl rfl rfl rfl rfl rfl rfl ?_)
      refine SOps.nil ?_
      refine Run.seq ?_
      refine Run.quiet (fun _ => ⟨by kernel_rfl, by kernel_rfl⟩) ?_
      refine QOps.st rfl rfl (Yv.fieldAddr fld49_2 rfl).yl ?_
      refine QOps.st rfl rfl (Yv.loadB (i := 0) lay3 rfl rfl rfl rfl).yl ?_
      refine QOps.st rfl rfl (Yv.move rfl).yl ?_
      refine QOps.st rfl rfl (Yv.move rfl).yl ?_
      refine QOps.st rfl rfl (Yv.fieldAddr fld49_0 rfl).yl ?_
      refine QOps.st rfl rfl (Yv.loadB (i := 0) lay3 rfl rfl rfl rfl).yl ?_
      refine QOps.st rfl rfl (Yv.sub rfl rfl (by omega)).yl ?_
      refine QOps.st rfl rfl (Yv.fieldAddr fld49_0 rfl).yl ?_
      refine QOps.st rfl rfl (Yv.loadB (i := 0) lay3 rfl rfl rfl rfl).yl ?_
      refine QOps.st rfl rfl (Yv.move rfl).yl ?_
      refine QOps.st rfl rfl (Yv.sub rfl rfl (by omega)).yl ?_
      refine QOps.st rfl rfl (Yl.call callable68 (.cons rfl (.cons rfl (.nil))) (fun w' hw' => l1Most_spec)) ?_
      refine QOps.st rfl rfl (Yv.mul rfl rfl (by omega)).yl ?_
      refine QOps.st rfl rfl (Yv.add rfl rfl (by omega)).yl ?_
      refine QOps.st rfl rfl (Yv.assign rfl).yl ?_
      refine QOps.nil ?_
      refine Run.draws (fun H => (H).eraseIdx 1) (m := 16) (listed := #[false, false, false, false, false, false, false, false, false, false, false, false, false, false, false, false]) (by kernel_rfl) rfl rfl ?_
      refine DOps.take (listed' := #[true, false, false, false, false, false, false, false, false, false, false, false, false, false, false, false]) 0 rfl (by kernel_rfl) rfl (List.Sublist.cons_cons _ (List.Sublist.cons _ (List.Sublist.refl _))) rfl rfl (Yv.fieldAddr fld37_0 rfl) ?_
      refine DOps.take (listed' := #[true, false, true, false, false, false, false, false, false, false, false, false, false, false, false, false]) 2 rfl (by kernel_rfl) rfl (List.Sublist.cons_cons _ (List.Sublist.cons _ (List.Sublist.refl _))) rfl rfl (Yv.fieldAddr fld49_1 rfl) ?_
      refine DOps.take (listed' := #[true, false, true, true, false, false, false, false, false, false, false, false, false, false, false, false]) 3 rfl (by kernel_rfl) rfl (List.Sublist.cons_cons _ (List.Sublist.cons _ (List.Sublist.refl _))) rfl rfl (Yv.loadB (i := 0) lay3 rfl rfl rfl rfl) ?_
      refine DOps.take (listed' := #[true, false, true, true, true, false, false, false, false, false, false, false, false, false, false, false]) 4 rfl (by kernel_rfl) rfl (List.Sublist.cons_cons _ (List.Sublist.cons _ (List.Sublist.refl _))) rfl rfl (Yv.move rfl) ?_
      refine DOps.take (listed' := #[true, false, true, true, true, true, false, false, false, false, false, false, false, false, false, false]) 5 rfl (by kernel_rfl) rfl (List.Sublist.cons_cons _ (List.Sublist.cons _ (List.Sublist.refl _))) rfl rfl (Yv.sub rfl rfl (by omega)) ?_
      refine DOps.take (listed' := #[true, false, true, true, true, true, false, true, false, false, false, false, false, false, false, false]) 7 rfl (by kernel_rfl) rfl (List.Sublist.cons_cons _ (List.Sublist.cons _ (List.Sublist.refl _))) rfl rfl (Yv.fieldAddr fld37_1 rfl) ?_
      refine DOps.take (listed' := #[true, false, true, true, true, true, false, true, false, true, false, false, false, false, false, false]) 9 rfl (by kernel_rfl) rfl (List.Sublist.cons_cons _ (List.Sublist.cons _ (List.Sublist.refl _))) rfl rfl (Yv.fieldAddr fld49_1 rfl) ?_
      refine DOps.take (listed' := #[true, false, true, true, true, true, false, true, false, true, true, false, false, false, false, false]) 10 rfl (by kernel_rfl) rfl (List.Sublist.cons_cons _ (List.Sublist.cons _ (List.Sublist.refl _))) rfl rfl (Yv.loadB (i := 0) lay3 rfl rfl rfl rfl) ?_
      refine DOps.take (listed' := #[true, false, true, true, true, true, false, true, false, true, true, true, false, false, false, false]) 11 rfl (by kernel_rfl) rfl (List.Sublist.cons_cons _ (List.Sublist.cons _ (List.Sublist.refl _))) rfl rfl (Yv.move rfl) ?_
      refine DOps.take (listed' := #[true, false, true, true, true, true, false, true, false, true, true, true, true, false, false, false]) 12 rfl (by kernel_rfl) rfl (List.Sublist.cons_cons _ (List.Sublist.cons _ (List.Sublist.refl _))) rfl rfl (Yv.add rfl rfl (by omega)) ?_
      refine DOps.fork2 (l1 := #[true, true, true, true, true, true, false, true, false, true, true, true, true, false, false, false]) (l2 := #[true, false, true, true, true, true, false, true, true, true, true, true, true, false, false, false]) 1 8 rfl rfl (by kernel_rfl) rfl rfl rfl rfl ?_ ?_
      ·
        refine One.st rfl (Yv.loadB (i := 1) lay3 rfl rfl rfl rfl).yl ?_
        refine ⟨(List.Sublist.cons_cons _ (List.Sublist.cons _ (List.Sublist.refl _))), ?_⟩
        refine DOps.fork2 (l1 := #[true, true, true, true, true, true, true, true, false, true, true, true, true, false, false, false]) (l2 := #[true, true, true, true, true, true, false, true, true, true, true, true, true, false, false, false]) 6 8 rfl rfl (by kernel_rfl) rfl rfl rfl rfl ?_ ?_
        ·
          refine One.st rfl (Yl.call callable68 (.cons rfl (.cons rfl (.nil))) (fun w' hw' => l1Most_spec)) ?_
          refine ⟨(List.Sublist.cons_cons _ (List.Sublist.cons _ (List.Sublist.refl _))), ?_⟩
          refine DOps.only (listed' := #[true, true, true, true, true, true, true, true, true, true, true, true, true, false, false, false]) 8 rfl (by kernel_rfl) rfl rfl ?_
          refine One.st rfl (Yv.loadB (i := 1) lay3 rfl rfl rfl rfl).yl ?_
          refine ⟨(List.Sublist.cons_cons _ (List.Sublist.cons _ (List.Sublist.refl _))), ?_⟩
          refine DOps.only (listed' := #[true, true, true, true, true, true, true, true, true, true, true, true, true, true, false, false]) 13 rfl (by kernel_rfl) rfl rfl ?_
          refine One.st rfl (Yl.call callable69 (.cons rfl (.cons rfl (.nil))) (fun w' hw' => l1Least_spec)) ?_
          refine ⟨(List.Sublist.cons_cons _ (List.Sublist.cons _ (List.Sublist.refl _))), ?_⟩
          refine DOps.take (listed' := #[true, true, true, true, true, true, true, true, true, true, true, true, true, true, true, false]) 14 rfl (by kernel_rfl) rfl (List.Sublist.cons_cons _ (List.Sublist.cons _ (List.Sublist.refl _))) rfl rfl (Yv.buildG (pv := [(0, _), (1, _)]) (cs := [_, _]) (fun l => match l with | [a0_0, a1_0] => [a0_0, a1_0] | _ => []) (.cons rfl (.cons rfl (.nil))) rfl rfl (by kernel_rfl)) ?_
          refine DOps.only (listed' := #[true, true, true, true, true, true, true, true, true, true, true, true, true, true, true, true]) 15 rfl (by kernel_rfl) rfl rfl ?_
          refine One.store (i := 1) (off := 0) (vs := [_, _]) (cs' := [_, _]) (H' := [_, _, _]) lay37 rfl rfl rfl rfl rfl rfl rfl rfl rfl rfl ?_
          refine ⟨(List.Sublist.cons_cons _ (List.Sublist.cons _ (List.Sublist.refl _))), ?_⟩
          refine DOps.done (by kernel_rfl) ?_
          refine Run.quiet (by intro h; cases h) ?_
          refine QOps.st rfl rfl (Yv.move rfl).yl ?_
          refine QOps.st rfl rfl (Yv.succN rfl rfl (by omega)).yl ?_
          refine QOps.st rfl rfl (Yv.assign rfl).yl ?_
          refine QOps.nil ?_
          refine ⟨k + 1, ?_, ?_, (SubE.cons rfl (SubE.cons rfl (SubE.cons rfl (SubE.cons rfl (SubE.cons rfl (SubE.cons rfl (SubE.nil _))))))), (List.Sublist.cons _ (List.Sublist.refl _))⟩
          · show k + 1 ≤ _; omega
          · first | omega | (dsimp only; omega)
        ·
          refine One.st rfl (Yv.loadB (i := 1) lay3 rfl rfl rfl rfl).yl ?_
          refine ⟨(List.Sublist.cons_cons _ (List.Sublist.cons _ (List.Sublist.refl _))), ?_⟩
          refine DOps.only (listed' := #[true, true, true, true, true, true, true, true, true, true, true, true, true, false, false, false]) 6 rfl (by kernel_rfl) rfl rfl ?_
          refine One.st rfl (Yl.call callable68 (.cons rfl (.cons rfl (.nil))) (fun w' hw' => l1Most_spec)) ?_
          refine ⟨(List.Sublist.cons_cons _ (List.Sublist.cons _ (List.Sublist.refl _))), ?_⟩
          refine DOps.only (listed' := #[true, true, true, true, true, true, true, true, true, true, true, true, true, true, false, false]) 13 rfl (by kernel_rfl) rfl rfl ?_
          refine One.st rfl (Yl.call callable69 (.cons rfl (.cons rfl (.nil))) (fun w' hw' => l1Least_spec)) ?_
          refine ⟨(List.Sublist.cons_cons _ (List.Sublist.cons _ (List.Sublist.refl _))), ?_⟩
          refine DOps.take (listed' := #[true, true, true, true, true, true, true, true, true, true, true, true, true, true, true, false]) 14 rfl (by kernel_rfl) rfl (List.Sublist.cons_cons _ (List.Sublist.cons _ (List.Sublist.refl _))) rfl rfl (Yv.buildG (pv := [(0, _), (1, _)]) (cs := [_, _]) (fun l => match l with | [a0_0, a1_0] => [a0_0, a1_0] | _ => []) (.cons rfl (.cons rfl (.nil))) rfl rfl (by kernel_rfl)) ?_
          refine DOps.only (listed' := #[true, true, true, true, true, true, true, true, true, true, true, true, true, true, true, true]) 15 rfl (by kernel_rfl) rfl rfl ?_
          refine One.store (i := 1) (off := 0) (vs := [_, _]) (cs' := [_, _]) (H' := [_, _, _]) lay37 rfl rfl rfl rfl rfl rfl rfl rfl rfl rfl ?_
          refine ⟨(List.Sublist.cons_cons _ (List.Sublist.cons _ (List.Sublist.refl _))), ?_⟩
          refine DOps.done (by kernel_rfl) ?_
          refine Run.quiet (by intro h; cases h) ?_
          refine QOps.st rfl rfl (Yv.move rfl).yl ?_
          refine QOps.st rfl rfl (Yv.succN rfl rfl (by omega)).yl ?_
          refine QOps.st rfl rfl (Yv.assign rfl).yl ?_
          refine QOps.nil ?_
          refine ⟨k + 1, ?_, ?_, (SubE.cons rfl (SubE.cons rfl (SubE.cons rfl (SubE.cons rfl (SubE.cons rfl (SubE.cons rfl (SubE.nil _))))))), (List.Sublist.cons _ (List.Sublist.refl _))⟩
          · show k + 1 ≤ _; omega
          · first | omega | (dsimp only; omega)
      ·
        refine One.st rfl (Yv.loadB (i := 1) lay3 rfl rfl rfl rfl).yl ?_
        refine ⟨(List.Sublist.cons_cons _ (List.Sublist.cons _ (List.Sublist.refl _))), ?_⟩
        refine DOps.only (listed' := #[true, true, true, true, true, true, false, true, true, true, true, true, true, false, false, false]) 1 rfl (by kernel_rfl) rfl rfl ?_
        refine One.st rfl (Yv.loadB (i := 1) lay3 rfl rfl rfl rfl).yl ?_
        refine ⟨(List.Sublist.cons_cons _ (List.Sublist.cons _ (List.Sublist.refl _))), ?_⟩
        refine DOps.only (listed' := #[true, true, true, true, true, true, true, true, true, true, true, true, true, false, false, false]) 6 rfl (by kernel_rfl) rfl rfl ?_
        refine One.st rfl (Yl.call callable68 (.cons rfl (.cons rfl (.nil))) (fun w' hw' => l1Most_spec)) ?_
        refine ⟨(List.Sublist.cons_cons _ (List.Sublist.cons _ (List.Sublist.refl _))), ?_⟩
        refine DOps.only (listed' := #[true, true, true, true, true, true, true, true, true, true, true, true, true, true, false, false]) 13 rfl (by kernel_rfl) rfl rfl ?_
        refine One.st rfl (Yl.call callable69 (.cons rfl (.cons rfl (.nil))) (fun w' hw' => l1Least_spec)) ?_
        refine ⟨(List.Sublist.cons_cons _ (List.Sublist.cons _ (List.Sublist.refl _))), ?_⟩
        refine DOps.take (listed' := #[true, true, true, true, true, true, true, true, true, true, true, true, true, true, true, false]) 14 rfl (by kernel_rfl) rfl (List.Sublist.cons_cons _ (List.Sublist.cons _ (List.Sublist.refl _))) rfl rfl (Yv.buildG (pv := [(0, _), (1, _)]) (cs := [_, _]) (fun l => match l with | [a0_0, a1_0] => [a0_0, a1_0] | _ => []) (.cons rfl (.cons rfl (.nil))) rfl rfl (by kernel_rfl)) ?_
        refine DOps.only (listed' := #[true, true, true, true, true, true, true, true, true, true, true, true, true, true, true, true]) 15 rfl (by kernel_rfl) rfl rfl ?_
        refine One.store (i := 1) (off := 0) (vs := [_, _]) (cs' := [_, _]) (H' := [_, _, _]) lay37 rfl rfl rfl rfl rfl rfl rfl rfl rfl rfl ?_
        refine ⟨(List.Sublist.cons_cons _ (List.Sublist.cons _ (List.Sublist.refl _))), ?_⟩
        refine DOps.done (by kernel_rfl) ?_
        refine Run.quiet (by intro h; cases h) ?_
        refine QOps.st rfl rfl (Yv.move rfl).yl ?_
        refine QOps.st rfl rfl (Yv.succN rfl rfl (by omega)).yl ?_
        refine QOps.st rfl rfl (Yv.assign rfl).yl ?_
        refine QOps.nil ?_
        refine ⟨k + 1, ?_, ?_, (SubE.cons rfl (SubE.cons rfl (SubE.cons rfl (SubE.cons rfl (SubE.cons rfl (SubE.cons rfl (SubE.nil _))))))), (List.Sublist.cons _ (List.Sublist.refl _))⟩
        · show k + 1 ≤ _; omega
        · first | omega | (dsimp only; omega)
    · try replace hc1 := of_decide_eq_false hc1
      refine Run.exit ?_
      refine Run.seq ?_
      refine Run.ops ?_
      refine SOps.st rfl rfl (Yv.loadBs (i := 0) lay37 rfl rfl rfl rfl).yl ?_
      refine SOps.one rfl (One.store (i := 1) (off := 0) (vs := [_, _]) (cs' := [_, _]) (H' := [_, _]) lay37 rfl rfl rfl rfl rfl rfl rfl rfl rfl rfl ?_)
      refine SOps.nil ?_
      refine Run.ret ?_
      obtain rfl : k = fs.length := by omega
      refine retQ.of (.inr rfl) rfl (.cells (i := 1) rfl lay37 rfl rfl .nil) (fun w' hw' => ?_)
      refine ⟨?_, hw'.bel.below⟩
      exact rfl
theorem l21May_spec {w : World} {A : Option Addr} {c : Nat} {fs : List Fix} {pace minute place : Int} (hs : Sl w 3 A fs.length c (fs.flatMap Fix.enc)) (hok : AllOk fs) (h1 : 0 ≤ pace) (h2 : pace ≤ 500) (h3 : 0 ≤ minute) (h4 : minute ≤ 9999) :
    Calls Try.prog 61 #[.slice A fs.length c, .int .i64 pace, .int .i64 minute, .int .i64 place] w (RetB w (.bool (inB place (lowTo fs pace minute fs.length) (highTo fs pace minute fs.length)))) := by
  refine calls_of_run (vs := [_, _, _, _]) (L := [(0, _), (1, _), (2, _), (3, _)]) (n := 20) (F := []) (H := []) Try.func61 rfl rfl rfl rfl (HOk.start _) ?_
  refine Run.seq ?_
  refine Run.quiet (by intro h; cases h) ?_
  refine QOps.st rfl rfl (Yv.assign rfl).yl ?_
  refine QOps.nil ?_
  refine Run.seq ?_
  refine Run.ops ?_
  refine SOps.st rfl rfl (Yv.move rfl).yl ?_
  refine SOps.st rfl rfl (Yv.move rfl).yl ?_
  refine SOps.st rfl rfl (Yv.move rfl).yl ?_
  refine SOps.st rfl rfl (Yl.call callable64 (.cons rfl (.cons rfl (.cons rfl (.nil)))) (fun w' hw' => l21Span_spec ((Rd.arg hs) w' hw') (by assumption) (by omega) (by omega) (by omega) (by omega))) ?_
  refine SOps.one rfl (One.alloc rfl zero37 (fun b1 => ?_))
  refine SOps.one rfl (One.store (i := 0) (off := 0) (vs := [_, _]) (cs' := [_, _]) (H' := [_]) lay37 rfl rfl rfl rfl rfl rfl rfl rfl rfl rfl ?_)
  refine SOps.nil ?_
  refine Run.seq ?_
  refine Run.quiet (by intro h; cases h) ?_
  refine QOps.st rfl rfl (Yv.move rfl).yl ?_
  refine QOps.st rfl rfl (Yv.fieldAddr fld37_0 rfl).yl ?_
  refine QOps.st rfl rfl (Yv.loadB (i := 0) lay3 rfl rfl rfl rfl).yl ?_
  refine QOps.st rfl rfl (Yv.fieldAddr fld37_1 rfl).yl ?_
  refine QOps.st rfl rfl (Yv.loadB (i := 0) lay3 rfl rfl rfl rfl).yl ?_
  refine QOps.st rfl rfl (Yl.call callable60 (.cons rfl (.cons rfl (.cons rfl (.nil)))) (fun w' hw' => l1In_spec)) ?_
  refine QOps.st rfl rfl (Yv.assign rfl).yl ?_
  refine QOps.nil ?_
  refine Run.ret ?_
  refine retQ.of (.inr rfl) rfl (.tmp rfl .nil) (fun w' hw' => ?_)
  refine ⟨?_, hw'.bel.below⟩
  exact rfl
theorem spanAt_spec {w : World} {A : Option Addr} {c : Nat} {fs : List Fix} {pace minute : Int} (hs : Sl w 3 A fs.length c (fs.flatMap Fix.enc)) (hok : AllOk fs) (hlen : 1 ≤ fs.length) (h1 : 0 ≤ pace) (h2 : pace ≤ 500) (h3 : 0 ≤ minute) (h4 : minute ≤ 9999) :
    Calls Try.prog 65 #[.slice A fs.length c, .int .i64 pace, .int .i64 minute] w (RetB w (.tuple #[.agg #[.int .i64 (lowTo fs pace minute fs.length), .int .i64 (highTo fs pace minute fs.length)], .bool (decide (lowTo fs pace minute fs.length ≤ highTo fs pace minute fs.length))])) := by
  have hmx := Sl.lenle hs
  refine calls_of_run (vs := [_, _, _]) (L := [(0, _), (1, _), (2, _)]) (n := 69) (F := []) (H := []) Try.func65 rfl rfl rfl rfl (HOk.start _) ?_
  refine Run.seq ?_
  refine Run.ops ?_
  refine SOps.one rfl (One.alloc rfl zero37 (fun b1 => ?_))
  refine SOps.st rfl rfl (Yv.assign rfl).yl ?_
  refine SOps.nil ?_
  refine Run.seq ?_
  refine Run.ops ?_
  refine SOps.st rfl rfl (Yv.buildG (pv := []) (cs := [_, _]) (fun _ => [.int .i64 0, .int .i64 0]) .nil rfl rfl (by kernel_rfl)).yl ?_
  refine SOps.one rfl (One.alloc rfl zero37 (fun b2 => ?_))
  refine SOps.one rfl (One.store (i := 0) (off := 0) (vs := [_, _]) (cs' := [_, _]) (H' := [_, _]) lay37 rfl rfl rfl rfl rfl rfl rfl rfl rfl rfl ?_)
  refine SOps.nil ?_
  refine Run.seq ?_
  refine Run.seq ?_
  refine Run.quiet (by intro h; cases h) ?_
  refine QOps.st rfl rfl (Yv.move rfl).yl ?_
  refine QOps.st rfl rfl (Yv.lenS el25s rfl).yl ?_
  refine QOps.st rfl rfl (Yv.move rfl).yl ?_
  refine QOps.nil ?_
  refine Run.block ?_
  refine Run.loop (S := Nat × Int × Int) (fun s => match s with | (k, lo, hi) => k ≤ fs.length ∧ (0 < k → lo = lowTo fs pace minute k ∧ hi = highTo fs pace minute k)) (fun s => match s with | (k, lo, hi) => [(0, .slice A fs.length c), (1, .int .i64 pace), (2, .int .i64 minute), (6, .pointer (some ⟨b1, 0, none⟩)), (8, .pointer (some ⟨b2, 0, none⟩)), (13, .slice A fs.length c), (14, .int .i64 (fs.length : Int)), (15, .int .i64 (k : Int))]) (fun s => match s with | (k, lo, hi) => [.blk b2 37 [.int .i64 lo, .int .i64 hi], .blk b1 37 [.int .i64 0, .int .i64 0]]) (fun s => match s with | (k, lo, hi) => fs.length - k) (0, 0, 0) ?_ (SubE.cons rfl (SubE.cons rfl (SubE.cons rfl (SubE.cons rfl (SubE.cons rfl (SubE.cons rfl (SubE.cons rfl (SubE.cons rfl (SubE.nil _))))))))) (List.Sublist.refl _) ?_
  · exact ⟨Nat.zero_le _, fun h => absurd h (Nat.lt_irrefl _)⟩
  · rintro ⟨k, lo, hi⟩ ⟨hk, hlh⟩
    show Run _ _ _ _ _ [(0, .slice A fs.length c), (1, .int .i64 pace), (2, .int .i64 minute), (6, .pointer (some ⟨b1, 0, none⟩)), (8, .pointer (some ⟨b2, 0, none⟩)), (13, .slice A fs.length c), (14, .int .i64 (fs.length : Int)), (15, .int .i64 (k : Int))] [.blk b2 37 [.int .i64 lo, .int .i64 hi], .blk b1 37 [.int .i64 0, .int .i64 0]] _
    refine Run.seq ?_
    refine Run.quiet (by intro h; cases h) ?_
    refine QOps.st rfl rfl (Yv.lss rfl rfl).yl ?_
    refine QOps.nil ?_
    refine Run.seq ?_
    refine Run.cond rfl (fun hc1 => ?_) (fun hc1 => ?_)
    · try replace hc1 := of_decide_eq_true hc1
      have okk := hok k (by omega)
      unfold Fix.ok at okk
      have hm := mul_bnd (P := 500) (M := 9999) (p := pace) (m := max (minute - (nth fs k).minute) (-(minute - (nth fs k).minute))) h1 (by omega) (by omega) (by omega)
      have hsl : slack (nth fs k) pace minute = (nth fs k).error + pace * max (minute - (nth fs k).minute) (-(minute - (nth fs k).minute)) := by unfold slack; rw [Int.neg_sub]
      have hL : lowTo fs pace minute (k + 1) = max (lowTo fs pace minute k) ((nth fs k).place - slack (nth fs k) pace minute) := rfl
      have hH : highTo fs pace minute (k + 1) = min (highTo fs pace minute k) ((nth fs k).place + slack (nth fs k) pace minute) := rfl
      have h0L : k = 0 → lowTo fs pace minute k = -100000000 := by intro h; rw [h]; rfl
      have h0H : k = 0 → highTo fs pace minute k = 100000000 := by intro h; rw [h]; rfl
      have hk0 : 0 < k ∨ k = 0 := by omega
      refine Run.skip ?_
      refine Run.seq ?_
      refine Run.block ?_
      refine Run.seq ?_
      refine Run.ops ?_
      refine SOps.st rfl rfl (Yv.move rfl).yl ?_
      refine SOps.st rfl rfl (Yv.indexAddr k el25 rfl rfl rfl (Rd.arg hs) (by omega)).yl ?_
      refine SOps.st rfl rfl (Yv.loadEs lay49 rfl Fix.len (Rd.arg hs) (by first | omega | (simp; omega)) (by decide)).yl ?_
      refine SOps.one rfl (One.alloc rfl zero49 (fun b3 => ?_))
      refine SOps.st rfl rfl (Yv.assign rfl).yl ?_
      refine SOps.one rfl (One.store (i := 0) (off := 0) (vs := [_, _, _]) (cs' := [_, _, _]) (H' := [_, _, _]) lay49 rfl rfl rfl rfl rfl rfl rfl rfl rfl rfl ?_)
      refine SOps.nil ?_
      refine Run.seq ?_
      refine Run.quiet (fun _ => ⟨by kernel_rfl, by kernel_rfl⟩) ?_
      refine QOps.st rfl rfl (Yv.fieldAddr fld49_2 rfl).yl ?_
      refine QOps.st rfl rfl (Yv.loadB (i := 0) lay3 rfl rfl rfl rfl).yl ?_
      refine QOps.st rfl rfl (Yv.move rfl).yl ?_
      refine QOps.st rfl rfl (Yv.move rfl).yl ?_
      refine QOps.st rfl rfl (Yv.fieldAddr fld49_0 rfl).yl ?_
      refine QOps.st rfl rfl (Yv.loadB (i := 0) lay3 rfl rfl rfl rfl).yl ?_
      refine QOps.st rfl rfl (Yv.sub rfl rfl (by omega)).yl ?_
      refine QOps.st rfl rfl (Yl.call callable79 (.cons rfl (.nil)) (fun w' hw' => absOf_spec (by omega) (by omega))) ?_
      refine QOps.st rfl rfl (Yv.mul rfl rfl (by omega)).yl ?_
      refine QOps.st rfl rfl (Yv.add rfl rfl (by omega)).yl ?_
      refine QOps.st rfl rfl (Yv.assign rfl).yl ?_
      refine QOps.nil ?_
      refine Run.seq ?_
      refine Run.seq ?_
      refine Run.quiet (by intro h; cases h) ?_
      refine QOps.st rfl rfl (Yv.move rfl).yl ?_
      refine QOps.st rfl rfl (Yv.eqI rfl rfl).yl ?_
      refine QOps.st rfl rfl (Yv.move rfl).yl ?_
      refine' QOps.or [_, _, _, _, _, _, _] _ (.tmp 39) rfl rfl rfl rfl rfl rfl (fun hg1 => ?_) ?_
      rotate_left
      · try replace hg1 := of_decide_eq_false hg1
        refine QOps.st rfl rfl (Yv.fieldAddr fld49_1 rfl).yl ?_
        refine QOps.st rfl rfl (Yv.loadB (i := 0) lay3 rfl rfl rfl rfl).yl ?_
        refine QOps.st rfl rfl (Yv.move rfl).yl ?_
        refine QOps.st rfl rfl (Yv.sub rfl rfl (by omega)).yl ?_
        refine QOps.st rfl rfl (Yv.fieldAddr fld37_0 rfl).yl ?_
        refine QOps.st rfl rfl (Yv.loadB (i := 1) lay3 rfl rfl rfl rfl).yl ?_
        refine QOps.st rfl rfl (Yv.gtr rfl rfl).yl ?_
        exact QOps.nil rfl
      refine QOps.nil ?_
      refine Run.cond rfl (fun hc2 => ?_) (fun hc2 => ?_)
      · try replace hc2 := of_decide_eq_true hc2
        refine Run.ops ?_
        refine SOps.st rfl rfl (Yv.fieldAddr fld49_1 rfl).yl ?_
        refine SOps.st rfl rfl (Yv.loadB (i := 0) lay3 rfl rfl rfl rfl).yl ?_
        refine SOps.st rfl rfl (Yv.move rfl).yl ?_
        refine SOps.st rfl rfl (Yv.sub rfl rfl (by omega)).yl ?_
        refine SOps.st rfl rfl (Yv.fieldAddr fld37_0 rfl).yl ?_
        refine SOps.one rfl (One.store (i := 1) (off := 0) (vs := [_]) (cs' := [_, _]) (H' := [_, _, _]) lay3 rfl rfl rfl rfl rfl rfl rfl rfl rfl rfl ?_)
        refine SOps.nil ?_
        refine Run.seq ?_
        refine Run.quiet (by intro h; cases h) ?_
        refine QOps.st rfl rfl (Yv.move rfl).yl ?_
        refine QOps.st rfl rfl (Yv.eqI rfl rfl).yl ?_
        refine QOps.st rfl rfl (Yv.move rfl).yl ?_
        refine' QOps.or [_, _, _, _, _, _, _] _ (.tmp 55) rfl rfl rfl rfl rfl rfl (fun hg2 => ?_) ?_
        rotate_left
        · try replace hg2 := of_decide_eq_false hg2
          refine QOps.st rfl rfl (Yv.fieldAddr fld49_1 rfl).yl ?_
          refine QOps.st rfl rfl (Yv.loadB (i := 0) lay3 rfl rfl rfl rfl).yl ?_
          refine QOps.st rfl rfl (Yv.move rfl).yl ?_
          refine QOps.st rfl rfl (Yv.add rfl rfl (by omega)).yl ?_
          refine QOps.st rfl rfl (Yv.fieldAddr fld37_1 rfl).yl ?_
          refine QOps.st rfl rfl (Yv.loadB (i := 1) lay3 rfl rfl rfl rfl).yl ?_
          refine QOps.st rfl rfl (Yv.lss rfl rfl).yl ?_
          exact QOps.nil rfl
        refine QOps.nil ?_
        refine Run.cond rfl (fun hc3 => ?_) (fun hc3 => ?_)
        · try replace hc3 := of_decide_eq_true hc3
          refine Run.ops ?_
          refine SOps.st rfl rfl (Yv.fieldAddr fld49_1 rfl).yl ?_
          refine SOps.st rfl rfl (Yv.loadB (i := 0) lay3 rfl rfl rfl rfl).yl ?_
          refine SOps.st rfl rfl (Yv.move rfl).yl ?_
          refine SOps.st rfl rfl (Yv.add rfl rfl (by omega)).yl ?_
          refine SOps.st rfl rfl (Yv.fieldAddr fld37_1 rfl).yl ?_
          refine SOps.one rfl (One.store (i := 1) (off := 1) (vs := [_]) (cs' := [_, _]) (H' := [_, _, _]) lay3 rfl rfl rfl rfl rfl rfl rfl rfl rfl rfl ?_)
          refine SOps.nil ?_
          refine Run.quiet (by intro h; cases h) ?_
          refine QOps.st rfl rfl (Yv.succN rfl rfl (by omega)).yl ?_
          refine QOps.st rfl rfl (Yv.move rfl).yl ?_
          refine QOps.nil ?_
          refine ⟨(k + 1, _, _), ?_, ?_, (SubE.cons rfl (SubE.cons rfl (SubE.cons rfl (SubE.cons rfl (SubE.cons rfl (SubE.cons rfl (SubE.cons rfl (SubE.cons rfl (SubE.nil _))))))))), (List.Sublist.cons _ (List.Sublist.refl _))⟩
          · exact ⟨by omega, fun _ => ⟨by simp at hc2 hc3; omega, by simp at hc2 hc3; omega⟩⟩
          · first | omega | (dsimp only; omega)
        · try replace hc3 := of_decide_eq_false hc3
          refine Run.skip ?_
          refine Run.quiet (by intro h; cases h) ?_
          refine QOps.st rfl rfl (Yv.succN rfl rfl (by omega)).yl ?_
          refine QOps.st rfl rfl (Yv.move rfl).yl ?_
          refine QOps.nil ?_
          refine ⟨(k + 1, _, _), ?_, ?_, (SubE.cons rfl (SubE.cons rfl (SubE.cons rfl (SubE.cons rfl (SubE.cons rfl (SubE.cons rfl (SubE.cons rfl (SubE.cons rfl (SubE.nil _))))))))), (List.Sublist.cons _ (List.Sublist.refl _))⟩
          · exact ⟨by omega, fun _ => ⟨by simp at hc2 hc3; omega, by simp at hc2 hc3; omega⟩⟩
          · first | omega | (dsimp only; omega)
      · try replace hc2 := of_decide_eq_false hc2
        refine Run.skip ?_
        refine Run.seq ?_
        refine Run.quiet (by intro h; cases h) ?_
        refine QOps.st rfl rfl (Yv.move rfl).yl ?_
        refine QOps.st rfl rfl (Yv.eqI rfl rfl).yl ?_
        refine QOps.st rfl rfl (Yv.move rfl).yl ?_
        refine' QOps.or [_, _, _, _, _, _, _] _ (.tmp 55) rfl rfl rfl rfl rfl rfl (fun hg3 => ?_) ?_
        rotate_left
        · try replace hg3 := of_decide_eq_false hg3
          refine QOps.st rfl rfl (Yv.fieldAddr fld49_1 rfl).yl ?_
          refine QOps.st rfl rfl (Yv.loadB (i := 0) lay3 rfl rfl rfl rfl).yl ?_
          refine QOps.st rfl rfl (Yv.move rfl).yl ?_
          refine QOps.st rfl rfl (Yv.add rfl rfl (by omega)).yl ?_
          refine QOps.st rfl rfl (Yv.fieldAddr fld37_1 rfl).yl ?_
          refine QOps.st rfl rfl (Yv.loadB (i := 1) lay3 rfl rfl rfl rfl).yl ?_
          refine QOps.st rfl rfl (Yv.lss rfl rfl).yl ?_
          exact QOps.nil rfl
        refine QOps.nil ?_
        refine Run.cond rfl (fun hc4 => ?_) (fun hc4 => ?_)
        · try replace hc4 := of_decide_eq_true hc4
          refine Run.ops ?_
          refine SOps.st rfl rfl (Yv.fieldAddr fld49_1 rfl).yl ?_
          refine SOps.st rfl rfl (Yv.loadB (i := 0) lay3 rfl rfl rfl rfl).yl ?_
          refine SOps.st rfl rfl (Yv.move rfl).yl ?_
          refine SOps.st rfl rfl (Yv.add rfl rfl (by omega)).yl ?_
          refine SOps.st rfl rfl (Yv.fieldAddr fld37_1 rfl).yl ?_
          refine SOps.one rfl (One.store (i := 1) (off := 1) (vs := [_]) (cs' := [_, _]) (H' := [_, _, _]) lay3 rfl rfl rfl rfl rfl rfl rfl rfl rfl rfl ?_)
          refine SOps.nil ?_
          refine Run.quiet (by intro h; cases h) ?_
          refine QOps.st rfl rfl (Yv.succN rfl rfl (by omega)).yl ?_
          refine QOps.st rfl rfl (Yv.move rfl).yl ?_
          refine QOps.nil ?_
          refine ⟨(k + 1, _, _), ?_, ?_, (SubE.cons rfl (SubE.cons rfl (SubE.cons rfl (SubE.cons rfl (SubE.cons rfl (SubE.cons rfl (SubE.cons rfl (SubE.cons rfl (SubE.nil _))))))))), (List.Sublist.cons _ (List.Sublist.refl _))⟩
          · exact ⟨by omega, fun _ => ⟨by simp at hc2 hc4; omega, by simp at hc2 hc4; omega⟩⟩
          · first | omega | (dsimp only; omega)
        · try replace hc4 := of_decide_eq_false hc4
          refine Run.skip ?_
          refine Run.quiet (by intro h; cases h) ?_
          refine QOps.st rfl rfl (Yv.succN rfl rfl (by omega)).yl ?_
          refine QOps.st rfl rfl (Yv.move rfl).yl ?_
          refine QOps.nil ?_
          refine ⟨(k + 1, _, _), ?_, ?_, (SubE.cons rfl (SubE.cons rfl (SubE.cons rfl (SubE.cons rfl (SubE.cons rfl (SubE.cons rfl (SubE.cons rfl (SubE.cons rfl (SubE.nil _))))))))), (List.Sublist.cons _ (List.Sublist.refl _))⟩
          · exact ⟨by omega, fun _ => ⟨by simp at hc2 hc4; omega, by simp at hc2 hc4; omega⟩⟩
          · first | omega | (dsimp only; omega)
    · try replace hc1 := of_decide_eq_false hc1
      refine Run.exit ?_
      refine Run.seq ?_
      refine Run.draws (fun H => (H).eraseIdx 1) (m := 8) (listed := #[false, false, false, false, false, false, false, false]) (by kernel_rfl) rfl rfl ?_
      refine DOps.take (listed' := #[true, false, false, false, false, false, false, false]) 0 rfl (by kernel_rfl) rfl (List.Sublist.cons_cons _ (List.nil_sublist _)) rfl rfl (Yv.loadBs (i := 0) lay37 rfl rfl rfl rfl) ?_
      refine DOps.take (listed' := #[true, true, false, false, false, false, false, false]) 1 rfl (by kernel_rfl) rfl (List.Sublist.cons_cons _ (List.nil_sublist _)) rfl rfl (Yv.fieldAddr fld37_0 rfl) ?_
      refine DOps.take (listed' := #[true, true, true, false, false, false, false, false]) 2 rfl (by kernel_rfl) rfl (List.Sublist.cons_cons _ (List.nil_sublist _)) rfl rfl (Yv.loadB (i := 0) lay3 rfl rfl rfl rfl) ?_
      refine DOps.take (listed' := #[true, true, true, true, false, false, false, false]) 3 rfl (by kernel_rfl) rfl (List.Sublist.cons_cons _ (List.nil_sublist _)) rfl rfl (Yv.fieldAddr fld37_1 rfl) ?_
      refine DOps.take (listed' := #[true, true, true, true, true, false, false, false]) 4 rfl (by kernel_rfl) rfl (List.Sublist.cons_cons _ (List.nil_sublist _)) rfl rfl (Yv.loadB (i := 0) lay3 rfl rfl rfl rfl) ?_
      refine DOps.take (listed' := #[true, true, true, true, true, true, false, false]) 5 rfl (by kernel_rfl) rfl (List.Sublist.cons_cons _ (List.nil_sublist _)) rfl rfl (Yv.leq rfl rfl) ?_
      refine DOps.only (listed' := #[true, true, true, true, true, true, true, false]) 6 rfl (by kernel_rfl) rfl rfl ?_
      refine One.store (i := 1) (off := 0) (vs := [_, _]) (cs' := [_, _]) (H' := [_, _]) lay37 rfl rfl rfl rfl rfl rfl rfl rfl rfl rfl ?_
      refine ⟨(List.Sublist.cons_cons _ (List.nil_sublist _)), ?_⟩
      refine DOps.take (listed' := #[true, true, true, true, true, true, true, true]) 7 rfl (by kernel_rfl) rfl (List.Sublist.cons_cons _ (List.nil_sublist _)) rfl rfl (Yv.assign rfl) ?_
      refine DOps.done (by kernel_rfl) ?_
      refine Run.ret ?_
      obtain rfl : k = fs.length := by omega
      obtain ⟨rfl, rfl⟩ := hlh (by omega)
      refine retQ.of (.inr rfl) rfl (.cells (i := 1) rfl lay37 rfl rfl (.tmp rfl .nil)) (fun w' hw' => ?_)
      refine ⟨?_, hw'.bel.below⟩
      exact rfl
theorem mayBeAt_spec {w : World} {A : Option Addr} {c : Nat} {fs : List Fix} {pace minute place : Int} (hs : Sl w 3 A fs.length c (fs.flatMap Fix.enc)) (hok : AllOk fs) (hlen : 1 ≤ fs.length) (h1 : 0 ≤ pace) (h2 : pace ≤ 500) (h3 : 0 ≤ minute) (h4 : minute ≤ 9999) :
    Calls Try.prog 63 #[.slice A fs.length c, .int .i64 pace, .int .i64 minute, .int .i64 place] w (RetB w (.bool (inB place (lowTo fs pace minute fs.length) (highTo fs pace minute fs.length)))) := by
  refine calls_of_run (vs := [_, _, _, _]) (L := [(0, _), (1, _), (2, _), (3, _)]) (n := 24) (F := []) (H := []) Try.func63 rfl rfl rfl rfl (HOk.start _) ?_
  refine Run.seq ?_
  refine Run.quiet (by intro h; cases h) ?_
  refine QOps.st rfl rfl (Yv.assign rfl).yl ?_
  refine QOps.nil ?_
  refine Run.seq ?_
  refine Run.ops ?_
  refine SOps.st rfl rfl (Yv.move rfl).yl ?_
  refine SOps.st rfl rfl (Yv.move rfl).yl ?_
  refine SOps.st rfl rfl (Yv.move rfl).yl ?_
  refine SOps.st rfl rfl (Yl.call callable65 (.cons rfl (.cons rfl (.cons rfl (.nil)))) (fun w' hw' => spanAt_spec ((Rd.arg hs) w' hw') (by assumption) (by omega) (by omega) (by omega) (by omega) (by omega))) ?_
  refine SOps.st rfl rfl (Yv.move rfl).yl ?_
  refine SOps.st rfl rfl (Yv.extract rfl rfl).yl ?_
  refine SOps.st rfl rfl (Yv.extract rfl rfl).yl ?_
  refine SOps.one rfl (One.alloc rfl zero37 (fun b1 => ?_))
  refine SOps.one rfl (One.store (i := 0) (off := 0) (vs := [_, _]) (cs' := [_, _]) (H' := [_]) lay37 rfl rfl rfl rfl rfl rfl rfl rfl rfl rfl ?_)
  refine SOps.st rfl rfl (Yv.assign rfl).yl ?_
  refine SOps.nil ?_
  refine Run.seq ?_
  refine Run.quiet (by intro h; cases h) ?_
  refine QOps.st rfl rfl (Yv.move rfl).yl ?_
  refine QOps.st rfl rfl (Yv.fieldAddr fld37_0 rfl).yl ?_
  refine QOps.st rfl rfl (Yv.loadB (i := 0) lay3 rfl rfl rfl rfl).yl ?_
  refine QOps.st rfl rfl (Yv.fieldAddr fld37_1 rfl).yl ?_
  refine QOps.st rfl rfl (Yv.loadB (i := 0) lay3 rfl rfl rfl rfl).yl ?_
  refine QOps.st rfl rfl (Yl.call callable53 (.cons rfl (.cons rfl (.cons rfl (.nil)))) (fun w' hw' => inside_spec)) ?_
  refine QOps.st rfl rfl (Yv.assign rfl).yl ?_
  refine QOps.nil ?_
  refine Run.ret ?_
  refine retQ.of (.inr rfl) rfl (.tmp rfl .nil) (fun w' hw' => ?_)
  refine ⟨?_, hw'.bel.below⟩
  exact rfl
theorem isPosition_spec {w : World} {n : Int} : Calls Try.prog 62 #[.int .i64 n] w (RetB w (.bool (inB n 0 100000))) := by
  refine calls_of_run (vs := [_]) (L := [(0, _)]) (n := 5) (F := []) (H := []) Try.func62 rfl rfl rfl rfl (HOk.start _) ?_
  refine Run.seq ?_
  refine Run.quiet (by intro h; cases h) ?_
  refine QOps.st rfl rfl (Yv.assign rfl).yl ?_
  refine QOps.nil ?_
  refine Run.seq ?_
  refine Run.quiet (by intro h; cases h) ?_
  refine QOps.st rfl rfl (Yv.move rfl).yl ?_
  refine QOps.st rfl rfl (Yl.call callable53 (.cons rfl (.cons rfl (.cons rfl (.nil)))) (fun w' hw' => inside_spec)) ?_
  refine QOps.st rfl rfl (Yv.assign rfl).yl ?_
  refine QOps.nil ?_
  refine Run.ret ?_
  refine retQ.of (.inr rfl) rfl (.tmp rfl .nil) (fun w' hw' => ?_)
  refine ⟨?_, hw'.bel.below⟩
  exact rfl
def mayBeAtOf (fs : List Fix) (pace minute place : Int) : Bool × Bool := if (areFixes fs && inB pace 0 500 && inB minute 0 9999 && inB place 0 100000) = true then (inB place (lowTo fs pace minute fs.length) (highTo fs pace minute fs.length), true) else (false, false)
theorem MayBeAt_spec {w : World} {A : Option Addr} {c : Nat} {fs : List Fix} {pace minute place : Int} (hs : Sl w 3 A fs.length c (fs.flatMap Fix.enc)) :
    Calls Try.prog 24 #[.slice A fs.length c, .int .i64 pace, .int .i64 minute, .int .i64 place] w (RetB w (.tuple #[.bool (mayBeAtOf fs pace minute place).1, .bool (mayBeAtOf fs pace minute place).2])) := by
  refine calls_of_run (vs := [_, _, _, _]) (L := [(0, _), (1, _), (2, _), (3, _)]) (n := 29) (F := []) (H := []) Try.func24 rfl rfl rfl rfl (HOk.start _) ?_
  refine Run.seq ?_
  refine Run.quiet (by intro h; cases h) ?_
  refine QOps.st rfl rfl (Yv.assign rfl).yl ?_
  refine QOps.st rfl rfl (Yv.assign rfl).yl ?_
  refine QOps.nil ?_
  refine Run.seq ?_
  refine Run.seq ?_
  refine Run.quiet (by intro h; cases h) ?_
  refine QOps.st rfl rfl (Yv.move rfl).yl ?_
  refine QOps.st rfl rfl (Yv.move rfl).yl ?_
  refine QOps.st rfl rfl (Yl.call callable57 (.cons rfl (.cons rfl (.nil))) (fun w' hw' => isPace_spec ((Rd.arg hs) w' hw'))) ?_
  refine QOps.st rfl rfl (Yv.not rfl).yl ?_
  refine QOps.st rfl rfl (Yv.move rfl).yl ?_
  refine' QOps.or [_, _, _] _ (.tmp 17) rfl rfl rfl rfl rfl rfl (fun hg1 => ?_) ?_
  rotate_left
  · try replace hg1 := of_decide_eq_false hg1
    refine QOps.st rfl rfl (Yv.move rfl).yl ?_
    refine QOps.st rfl rfl (Yl.call callable52 (.cons rfl (.nil)) (fun w' hw' => isMinute_spec)) ?_
    refine QOps.st rfl rfl (Yv.not rfl).yl ?_
    exact QOps.nil rfl
  refine QOps.st rfl rfl (Yv.move rfl).yl ?_
  refine' QOps.or [_, _, _] _ (.tmp 22) rfl rfl rfl rfl rfl rfl (fun hg2 => ?_) ?_
  rotate_left
  · try replace hg2 := of_decide_eq_false hg2
    refine QOps.st rfl rfl (Yv.move rfl).yl ?_
    refine QOps.st rfl rfl (Yl.call callable62 (.cons rfl (.nil)) (fun w' hw' => isPosition_spec)) ?_
    refine QOps.st rfl rfl (Yv.not rfl).yl ?_
    exact QOps.nil rfl
  refine QOps.nil ?_
  refine Run.cond rfl (fun hc1 => ?_) (fun hc1 => ?_)
  · try replace hc1 := of_decide_eq_true hc1
    have hn : ¬ (areFixes fs && inB pace 0 500 && inB minute 0 9999 && inB place 0 100000) = true := by revert hc1; cases areFixes fs <;> cases inB pace 0 500 <;> cases inB minute 0 9999 <;> cases inB place 0 100000 <;> simp
    refine Run.seq ?_
    refine Run.quiet (by intro h; cases h) ?_
    refine QOps.st rfl rfl (Yv.assign rfl).yl ?_
    refine QOps.st rfl rfl (Yv.assign rfl).yl ?_
    refine QOps.nil ?_
    refine Run.ret ?_
    refine retQ.of (.inr rfl) rfl (.tmp rfl (.tmp rfl .nil)) (fun w' hw' => ?_)
    refine ⟨?_, hw'.bel.below⟩
    unfold mayBeAtOf; rw [if_neg hn]; rfl
  · try replace hc1 := of_decide_eq_false hc1
    have hy : (areFixes fs && inB pace 0 500 && inB minute 0 9999 && inB place 0 100000) = true := by revert hc1; cases areFixes fs <;> cases inB pace 0 500 <;> cases inB minute 0 9999 <;> cases inB place 0 100000 <;> simp
    have hyy := hy
    simp only [Bool.and_eq_true] at hyy
    obtain ⟨⟨⟨hg0, hg1⟩, hg2⟩, hg3⟩ := hyy
    have hok0 := areFixes_all hg0
    have hlen0 := (areFixes_ok hg0)
    have hb1 := inB_iff.1 hg1
    have hb2 := inB_iff.1 hg2
    have hb3 := inB_iff.1 hg3
    refine Run.skip ?_
    refine Run.seq ?_
    refine Run.quiet (by intro h; cases h) ?_
    refine QOps.st rfl rfl (Yv.move rfl).yl ?_
    refine QOps.st rfl rfl (Yv.move rfl).yl ?_
    refine QOps.st rfl rfl (Yv.move rfl).yl ?_
    refine QOps.st rfl rfl (Yv.move rfl).yl ?_
    refine QOps.st rfl rfl (Yl.call callable63 (.cons rfl (.cons rfl (.cons rfl (.cons rfl (.nil))))) (fun w' hw' => mayBeAt_spec ((Rd.arg hs) w' hw') (by assumption) (by omega) (by omega) (by omega) (by omega) (by omega))) ?_
    refine QOps.st rfl rfl (Yv.assign rfl).yl ?_
    refine QOps.st rfl rfl (Yv.assign rfl).yl ?_
    refine QOps.nil ?_
    refine Run.ret ?_
    refine retQ.of (.inr rfl) rfl (.tmp rfl (.tmp rfl .nil)) (fun w' hw' => ?_)
    refine ⟨?_, hw'.bel.below⟩
    unfold mayBeAtOf; rw [if_pos hy]; rfl
theorem sMayBeAt_spec {w : World} {A : Option Addr} {c : Nat} {fs : List Fix} {pace minute place : Int} (hs : Sl w 3 A fs.length c (fs.flatMap Fix.enc)) :
    Calls Try.prog 23 #[.slice A fs.length c, .int .i64 pace, .int .i64 minute, .int .i64 place] w (RetB w (.tuple #[.bool (mayBeAtOf fs pace minute place).1, .bool (mayBeAtOf fs pace minute place).2])) := by
  refine calls_of_run (vs := [_, _, _, _]) (L := [(0, _), (1, _), (2, _), (3, _)]) (n := 33) (F := []) (H := []) Try.func23 rfl rfl rfl rfl (HOk.start _) ?_
  refine Run.seq ?_
  refine Run.quiet (by intro h; cases h) ?_
  refine QOps.st rfl rfl (Yv.assign rfl).yl ?_
  refine QOps.st rfl rfl (Yv.assign rfl).yl ?_
  refine QOps.nil ?_
  refine Run.seq ?_
  refine Run.seq ?_
  refine Run.quiet (by intro h; cases h) ?_
  refine QOps.st rfl rfl (Yv.move rfl).yl ?_
  refine QOps.st rfl rfl (Yl.call callable51 (.cons rfl (.nil)) (fun w' hw' => l21Good_spec ((Rd.arg hs) w' hw'))) ?_
  refine QOps.st rfl rfl (Yv.not rfl).yl ?_
  refine QOps.st rfl rfl (Yv.move rfl).yl ?_
  refine' QOps.or [_, _, _] _ (.tmp 16) rfl rfl rfl rfl rfl rfl (fun hg1 => ?_) ?_
  rotate_left
  · try replace hg1 := of_decide_eq_false hg1
    refine QOps.st rfl rfl (Yv.move rfl).yl ?_
    refine QOps.st rfl rfl (Yl.call callable55 (.cons rfl (.nil)) (fun w' hw' => l21Pace_spec)) ?_
    refine QOps.st rfl rfl (Yv.not rfl).yl ?_
    exact QOps.nil rfl
  refine QOps.st rfl rfl (Yv.move rfl).yl ?_
  refine' QOps.or [_, _, _] _ (.tmp 21) rfl rfl rfl rfl rfl rfl (fun hg2 => ?_) ?_
  rotate_left
  · try replace hg2 := of_decide_eq_false hg2
    refine QOps.st rfl rfl (Yv.move rfl).yl ?_
    refine QOps.st rfl rfl (Yl.call callable59 (.cons rfl (.nil)) (fun w' hw' => l8Minute_spec)) ?_
    refine QOps.st rfl rfl (Yv.not rfl).yl ?_
    exact QOps.nil rfl
  refine QOps.st rfl rfl (Yv.move rfl).yl ?_
  refine' QOps.or [_, _, _] _ (.tmp 26) rfl rfl rfl rfl rfl rfl (fun hg3 => ?_) ?_
  rotate_left
  · try replace hg3 := of_decide_eq_false hg3
    refine QOps.st rfl rfl (Yv.move rfl).yl ?_
    refine QOps.st rfl rfl (Yl.call callable60 (.cons rfl (.cons rfl (.cons rfl (.nil)))) (fun w' hw' => l1In_spec)) ?_
    refine QOps.st rfl rfl (Yv.not rfl).yl ?_
    exact QOps.nil rfl
  refine QOps.nil ?_
  refine Run.cond rfl (fun hc1 => ?_) (fun hc1 => ?_)
  · try replace hc1 := of_decide_eq_true hc1
    have hn : ¬ (areFixes fs && inB pace 0 500 && inB minute 0 9999 && inB place 0 100000) = true := by revert hc1; cases areFixes fs <;> cases inB pace 0 500 <;> cases inB minute 0 9999 <;> cases inB place 0 100000 <;> simp
    refine Run.seq ?_
    refine Run.quiet (by intro h; cases h) ?_
    refine QOps.st rfl rfl (Yv.assign rfl).yl ?_
    refine QOps.st rfl rfl (Yv.assign rfl).yl ?_
    refine QOps.nil ?_
    refine Run.ret ?_
    refine retQ.of (.inr rfl) rfl (.tmp rfl (.tmp rfl .nil)) (fun w' hw' => ?_)
    refine ⟨?_, hw'.bel.below⟩
    unfold mayBeAtOf; rw [if_neg hn]; rfl
  · try replace hc1 := of_decide_eq_false hc1
    have hy : (areFixes fs && inB pace 0 500 && inB minute 0 9999 && inB place 0 100000) = true := by revert hc1; cases areFixes fs <;> cases inB pace 0 500 <;> cases inB minute 0 9999 <;> cases inB place 0 100000 <;> simp
    have hyy := hy
    simp only [Bool.and_eq_true] at hyy
    obtain ⟨⟨⟨hg0, hg1⟩, hg2⟩, hg3⟩ := hyy
    have hok0 := areFixes_all hg0
    have hlen0 := (areFixes_ok hg0)
    have hb1 := inB_iff.1 hg1
    have hb2 := inB_iff.1 hg2
    have hb3 := inB_iff.1 hg3
    refine Run.skip ?_
    refine Run.seq ?_
    refine Run.quiet (by intro h; cases h) ?_
    refine QOps.st rfl rfl (Yv.move rfl).yl ?_
    refine QOps.st rfl rfl (Yv.move rfl).yl ?_
    refine QOps.st rfl rfl (Yv.move rfl).yl ?_
    refine QOps.st rfl rfl (Yv.move rfl).yl ?_
    refine QOps.st rfl rfl (Yl.call callable61 (.cons rfl (.cons rfl (.cons rfl (.cons rfl (.nil))))) (fun w' hw' => l21May_spec ((Rd.arg hs) w' hw') (by assumption) (by omega) (by omega) (by omega) (by omega))) ?_
    refine QOps.st rfl rfl (Yv.assign rfl).yl ?_
    refine QOps.st rfl rfl (Yv.assign rfl).yl ?_
    refine QOps.nil ?_
    refine Run.ret ?_
    refine retQ.of (.inr rfl) rfl (.tmp rfl (.tmp rfl .nil)) (fun w' hw' => ?_)
    refine ⟨?_, hw'.bel.below⟩
    unfold mayBeAtOf; rw [if_pos hy]; rfl

def spanOf (fs : List Fix) (pace minute : Int) : Span × Bool :=
  if (areFixes fs && inB pace 0 500 && inB minute 0 9999) = true then (if lowTo fs pace minute fs.length ≤ highTo fs pace minute fs.length then (⟨lowTo fs pace minute fs.length, highTo fs pace minute fs.length⟩, true) else (⟨0, 0⟩, false)) else (⟨0, 0⟩, false)
theorem SpanAt_spec {w : World} {A : Option Addr} {c : Nat} {fs : List Fix} {pace minute : Int} (hs : Sl w 3 A fs.length c (fs.flatMap Fix.enc)) :
    Calls Try.prog 26 #[.slice A fs.length c, .int .i64 pace, .int .i64 minute] w (RetB w (.tuple #[.agg (spanOf fs pace minute).1.enc.toArray, .bool (spanOf fs pace minute).2])) := by
  refine calls_of_run (vs := [_, _, _]) (L := [(0, _), (1, _), (2, _)]) (n := 31) (F := []) (H := []) Try.func26 rfl rfl rfl rfl (HOk.start _) ?_
  refine Run.seq ?_
  refine Run.ops ?_
  refine SOps.one rfl (One.alloc rfl zero37 (fun b1 => ?_))
  refine SOps.st rfl rfl (Yv.assign rfl).yl ?_
  refine SOps.nil ?_
  refine Run.seq ?_
  refine Run.seq ?_
  refine Run.quiet (by intro h; cases h) ?_
  refine QOps.st rfl rfl (Yv.move rfl).yl ?_
  refine QOps.st rfl rfl (Yv.move rfl).yl ?_
  refine QOps.st rfl rfl (Yl.call callable57 (.cons rfl (.cons rfl (.nil))) (fun w' hw' => isPace_spec ((Rd.arg hs) w' hw'))) ?_
  refine QOps.st rfl rfl (Yv.not rfl).yl ?_
  refine QOps.st rfl rfl (Yv.move rfl).yl ?_
  refine' QOps.or [_, _, _] _ (.tmp 17) rfl rfl rfl rfl rfl rfl (fun hg1 => ?_) ?_
  rotate_left
  · try replace hg1 := of_decide_eq_false hg1
    refine QOps.st rfl rfl (Yv.move rfl).yl ?_
    refine QOps.st rfl rfl (Yl.call callable52 (.cons rfl (.nil)) (fun w' hw' => isMinute_spec)) ?_
    refine QOps.st rfl rfl (Yv.not rfl).yl ?_
    exact QOps.nil rfl
  refine QOps.nil ?_
  refine Run.cond rfl (fun hc1 => ?_) (fun hc1 => ?_)
  · try replace hc1 := of_decide_eq_true hc1
    have hn : ¬ (areFixes fs && inB pace 0 500 && inB minute 0 9999) = true := by revert hc1; cases areFixes fs <;> cases inB pace 0 500 <;> cases inB minute 0 9999 <;> simp
    refine Run.seq ?_
    refine Run.ops ?_
    refine SOps.st rfl rfl (Yv.buildG (pv := []) (cs := [_, _]) (fun _ => [.int .i64 0, .int .i64 0]) .nil rfl rfl (by kernel_rfl)).yl ?_
    refine SOps.one rfl (One.store (i := 0) (off := 0) (vs := [_, _]) (cs' := [_, _]) (H' := [_]) lay37 rfl rfl rfl rfl rfl rfl rfl rfl rfl rfl ?_)
    refine SOps.st rfl rfl (Yv.assign rfl).yl ?_
    refine SOps.nil ?_
    refine Run.ret ?_
    refine retQ.of (.inr rfl) rfl (.cells (i := 0) rfl lay37 rfl rfl (.tmp rfl .nil)) (fun w' hw' => ?_)
    refine ⟨?_, hw'.bel.below⟩
    unfold spanOf; rw [if_neg hn]; rfl
  · try replace hc1 := of_decide_eq_false hc1
    have hy : (areFixes fs && inB pace 0 500 && inB minute 0 9999) = true := by revert hc1; cases areFixes fs <;> cases inB pace 0 500 <;> cases inB minute 0 9999 <;> simp
    have hyy := hy
    simp only [Bool.and_eq_true] at hyy
    obtain ⟨⟨hg0, hg1⟩, hg2⟩ := hyy
    have hok0 := areFixes_all hg0
    have hlen0 := (areFixes_ok hg0)
    have hb1 := inB_iff.1 hg1
    have hb2 := inB_iff.1 hg2
    refine Run.skip ?_
    refine Run.seq ?_
    refine Run.ops ?_
    refine SOps.st rfl rfl (Yv.move rfl).yl ?_
    refine SOps.st rfl rfl (Yv.move rfl).yl ?_
    refine SOps.st rfl rfl (Yv.move rfl).yl ?_
    refine SOps.st rfl rfl (Yl.call callable65 (.cons rfl (.cons rfl (.cons rfl (.nil)))) (fun w' hw' => spanAt_spec ((Rd.arg hs) w' hw') (by assumption) (by omega) (by omega) (by omega) (by omega) (by omega))) ?_
    refine SOps.st rfl rfl (Yv.move rfl).yl ?_
    refine SOps.st rfl rfl (Yv.extract rfl rfl).yl ?_
    refine SOps.st rfl rfl (Yv.extract rfl rfl).yl ?_
    refine SOps.one rfl (One.alloc rfl zero37 (fun b2 => ?_))
    refine SOps.one rfl (One.store (i := 0) (off := 0) (vs := [_, _]) (cs' := [_, _]) (H' := [_, _]) lay37 rfl rfl rfl rfl rfl rfl rfl rfl rfl rfl ?_)
    refine SOps.st rfl rfl (Yv.assign rfl).yl ?_
    refine SOps.nil ?_
    refine Run.seq ?_
    refine Run.seq ?_
    refine Run.quiet (by intro h; cases h) ?_
    refine QOps.st rfl rfl (Yv.move rfl).yl ?_
    refine QOps.st rfl rfl (Yv.not rfl).yl ?_
    refine QOps.nil ?_
    refine Run.cond rfl (fun hc2 => ?_) (fun hc2 => ?_)
    · try replace hc2 := of_decide_eq_true hc2
      refine Run.seq ?_
      refine Run.ops ?_
      refine SOps.st rfl rfl (Yv.buildG (pv := []) (cs := [_, _]) (fun _ => [.int .i64 0, .int .i64 0]) .nil rfl rfl (by kernel_rfl)).yl ?_
      refine SOps.one rfl (One.store (i := 1) (off := 0) (vs := [_, _]) (cs' := [_, _]) (H' := [_, _]) lay37 rfl rfl rfl rfl rfl rfl rfl rfl rfl rfl ?_)
      refine SOps.st rfl rfl (Yv.assign rfl).yl ?_
      refine SOps.nil ?_
      refine Run.ret ?_
      refine retQ.of (.inr rfl) rfl (.cells (i := 1) rfl lay37 rfl rfl (.tmp rfl .nil)) (fun w' hw' => ?_)
      refine ⟨?_, hw'.bel.below⟩
      unfold spanOf; rw [if_pos hy, if_neg (by first | omega | (simp at hc2; omega))]; rfl
    · try replace hc2 := of_decide_eq_false hc2
      refine Run.skip ?_
      refine Run.seq ?_
      refine Run.ops ?_
      refine SOps.st rfl rfl (Yv.loadBs (i := 0) lay37 rfl rfl rfl rfl).yl ?_
      refine SOps.one rfl (One.store (i := 1) (off := 0) (vs := [_, _]) (cs' := [_, _]) (H' := [_, _]) lay37 rfl rfl rfl rfl rfl rfl rfl rfl rfl rfl ?_)
      refine SOps.st rfl rfl (Yv.assign rfl).yl ?_
      refine SOps.nil ?_
      refine Run.ret ?_
      refine retQ.of (.inr rfl) rfl (.cells (i := 1) rfl lay37 rfl rfl (.tmp rfl .nil)) (fun w' hw' => ?_)
      refine ⟨?_, hw'.bel.below⟩
      unfold spanOf; rw [if_pos hy, if_pos (by first | omega | (simp at hc2; omega))]; rfl
theorem sSpanAt_spec {w : World} {A : Option Addr} {c : Nat} {fs : List Fix} {pace minute : Int} (hs : Sl w 3 A fs.length c (fs.flatMap Fix.enc)) :
    Calls Try.prog 25 #[.slice A fs.length c, .int .i64 pace, .int .i64 minute] w (RetB w (.tuple #[.agg (spanOf fs pace minute).1.enc.toArray, .bool (spanOf fs pace minute).2])) := by
  refine calls_of_run (vs := [_, _, _]) (L := [(0, _), (1, _), (2, _)]) (n := 34) (F := []) (H := []) Try.func25 rfl rfl rfl rfl (HOk.start _) ?_
  refine Run.seq ?_
  refine Run.ops ?_
  refine SOps.one rfl (One.alloc rfl zero37 (fun b1 => ?_))
  refine SOps.st rfl rfl (Yv.assign rfl).yl ?_
  refine SOps.nil ?_
  refine Run.seq ?_
  refine Run.seq ?_
  refine Run.quiet (by intro h; cases h) ?_
  refine QOps.st rfl rfl (Yv.move rfl).yl ?_
  refine QOps.st rfl rfl (Yl.call callable51 (.cons rfl (.nil)) (fun w' hw' => l21Good_spec ((Rd.arg hs) w' hw'))) ?_
  refine QOps.st rfl rfl (Yv.not rfl).yl ?_
  refine QOps.st rfl rfl (Yv.move rfl).yl ?_
  refine' QOps.or [_, _, _] _ (.tmp 15) rfl rfl rfl rfl rfl rfl (fun hg1 => ?_) ?_
  rotate_left
  · try replace hg1 := of_decide_eq_false hg1
    refine QOps.st rfl rfl (Yv.move rfl).yl ?_
    refine QOps.st rfl rfl (Yl.call callable55 (.cons rfl (.nil)) (fun w' hw' => l21Pace_spec)) ?_
    refine QOps.st rfl rfl (Yv.not rfl).yl ?_
    exact QOps.nil rfl
  refine QOps.st rfl rfl (Yv.move rfl).yl ?_
  refine' QOps.or [_, _, _] _ (.tmp 20) rfl rfl rfl rfl rfl rfl (fun hg2 => ?_) ?_
  rotate_left
  · try replace hg2 := of_decide_eq_false hg2
    refine QOps.st rfl rfl (Yv.move rfl).yl ?_
    refine QOps.st rfl rfl (Yl.call callable59 (.cons rfl (.nil)) (fun w' hw' => l8Minute_spec)) ?_
    refine QOps.st rfl rfl (Yv.not rfl).yl ?_
    exact QOps.nil rfl
  refine QOps.nil ?_
  refine Run.cond rfl (fun hc1 => ?_) (fun hc1 => ?_)
  · try replace hc1 := of_decide_eq_true hc1
    have hn : ¬ (areFixes fs && inB pace 0 500 && inB minute 0 9999) = true := by revert hc1; cases areFixes fs <;> cases inB pace 0 500 <;> cases inB minute 0 9999 <;> simp
    refine Run.seq ?_
    refine Run.ops ?_
    refine SOps.st rfl rfl (Yv.buildG (pv := []) (cs := [_, _]) (fun _ => [.int .i64 0, .int .i64 0]) .nil rfl rfl (by kernel_rfl)).yl ?_
    refine SOps.one rfl (One.store (i := 0) (off := 0) (vs := [_, _]) (cs' := [_, _]) (H' := [_]) lay37 rfl rfl rfl rfl rfl rfl rfl rfl rfl rfl ?_)
    refine SOps.st rfl rfl (Yv.assign rfl).yl ?_
    refine SOps.nil ?_
    refine Run.ret ?_
    refine retQ.of (.inr rfl) rfl (.cells (i := 0) rfl lay37 rfl rfl (.tmp rfl .nil)) (fun w' hw' => ?_)
    refine ⟨?_, hw'.bel.below⟩
    unfold spanOf; rw [if_neg hn]; rfl
  · try replace hc1 := of_decide_eq_false hc1
    have hy : (areFixes fs && inB pace 0 500 && inB minute 0 9999) = true := by revert hc1; cases areFixes fs <;> cases inB pace 0 500 <;> cases inB minute 0 9999 <;> simp
    have hyy := hy
    simp only [Bool.and_eq_true] at hyy
    obtain ⟨⟨hg0, hg1⟩, hg2⟩ := hyy
    have hok0 := areFixes_all hg0
    have hlen0 := (areFixes_ok hg0)
    have hb1 := inB_iff.1 hg1
    have hb2 := inB_iff.1 hg2
    refine Run.skip ?_
    refine Run.seq ?_
    refine Run.ops ?_
    refine SOps.st rfl rfl (Yv.move rfl).yl ?_
    refine SOps.st rfl rfl (Yv.move rfl).yl ?_
    refine SOps.st rfl rfl (Yv.move rfl).yl ?_
    refine SOps.st rfl rfl (Yl.call callable64 (.cons rfl (.cons rfl (.cons rfl (.nil)))) (fun w' hw' => l21Span_spec ((Rd.arg hs) w' hw') (by assumption) (by omega) (by omega) (by omega) (by omega))) ?_
    refine SOps.one rfl (One.alloc rfl zero37 (fun b2 => ?_))
    refine SOps.one rfl (One.store (i := 0) (off := 0) (vs := [_, _]) (cs' := [_, _]) (H' := [_, _]) lay37 rfl rfl rfl rfl rfl rfl rfl rfl rfl rfl ?_)
    refine SOps.nil ?_
    refine Run.seq ?_
    refine Run.seq ?_
    refine Run.quiet (by intro h; cases h) ?_
    refine QOps.st rfl rfl (Yv.fieldAddr fld37_0 rfl).yl ?_
    refine QOps.st rfl rfl (Yv.loadB (i := 0) lay3 rfl rfl rfl rfl).yl ?_
    refine QOps.st rfl rfl (Yv.fieldAddr fld37_1 rfl).yl ?_
    refine QOps.st rfl rfl (Yv.loadB (i := 0) lay3 rfl rfl rfl rfl).yl ?_
    refine QOps.st rfl rfl (Yv.gtr rfl rfl).yl ?_
    refine QOps.nil ?_
    refine Run.cond rfl (fun hc2 => ?_) (fun hc2 => ?_)
    · try replace hc2 := of_decide_eq_true hc2
      refine Run.seq ?_
      refine Run.ops ?_
      refine SOps.st rfl rfl (Yv.buildG (pv := []) (cs := [_, _]) (fun _ => [.int .i64 0, .int .i64 0]) .nil rfl rfl (by kernel_rfl)).yl ?_
      refine SOps.one rfl (One.store (i := 1) (off := 0) (vs := [_, _]) (cs' := [_, _]) (H' := [_, _]) lay37 rfl rfl rfl rfl rfl rfl rfl rfl rfl rfl ?_)
      refine SOps.st rfl rfl (Yv.assign rfl).yl ?_
      refine SOps.nil ?_
      refine Run.ret ?_
      refine retQ.of (.inr rfl) rfl (.cells (i := 1) rfl lay37 rfl rfl (.tmp rfl .nil)) (fun w' hw' => ?_)
      refine ⟨?_, hw'.bel.below⟩
      unfold spanOf; rw [if_pos hy, if_neg (by first | omega | (simp at hc2; omega))]; rfl
    · try replace hc2 := of_decide_eq_false hc2
      refine Run.skip ?_
      refine Run.seq ?_
      refine Run.ops ?_
      refine SOps.st rfl rfl (Yv.loadBs (i := 0) lay37 rfl rfl rfl rfl).yl ?_
      refine SOps.one rfl (One.store (i := 1) (off := 0) (vs := [_, _]) (cs' := [_, _]) (H' := [_, _]) lay37 rfl rfl rfl rfl rfl rfl rfl rfl rfl rfl ?_)
      refine SOps.st rfl rfl (Yv.assign rfl).yl ?_
      refine SOps.nil ?_
      refine Run.ret ?_
      refine retQ.of (.inr rfl) rfl (.cells (i := 1) rfl lay37 rfl rfl (.tmp rfl .nil)) (fun w' hw' => ?_)
      refine ⟨?_, hw'.bel.below⟩
      unfold spanOf; rw [if_pos hy, if_pos (by first | omega | (simp at hc2; omega))]; rfl

/-- The first and the last minute, of the first n from m0 on, at which it may be at the place. -/
def passTo (fs : List Fix) (pace place m0 : Int) : Nat → Interval × Bool
  | 0 => (⟨0, 0⟩, false)
  | n + 1 => if inB place (lowTo fs pace (m0 + (n : Int)) fs.length) (highTo fs pace (m0 + (n : Int)) fs.length) = true then (⟨if (passTo fs pace place m0 n).2 = true then (passTo fs pace place m0 n).1.start else m0 + (n : Int), m0 + (n : Int)⟩, true) else passTo fs pace place m0 n
def passOf (fs : List Fix) (pace place : Int) : Interval × Bool :=
  if (areFixes fs && inB pace 0 500 && inB place 0 100000) = true then passTo fs pace place (nth fs 0).minute ((nth fs (fs.length - 1)).minute + 1 - (nth fs 0).minute).toNat else (⟨0, 0⟩, false)
theorem PassingMinutes_spec {w : World} {A : Option Addr} {c : Nat} {fs : List Fix} {pace place : Int} (hs : Sl w 3 A fs.length c (fs.flatMap Fix.enc)) :
    Calls Try.prog 38 #[.slice A fs.length c, .int .i64 pace, .int .i64 place] w (RetB w (.tuple #[.agg (passOf fs pace place).1.enc.toArray, .bool (passOf fs pace place).2])) := by
  refine calls_of_run (vs := [_, _, _]) (L := [(0, _), (1, _), (2, _)]) (n := 51) (F := []) (H := []) Try.func38 rfl rfl rfl rfl (HOk.start _) ?_
  refine Run.seq ?_
  refine Run.ops ?_
  refine SOps.one rfl (One.alloc rfl zero54 (fun b1 => ?_))
  refine SOps.st rfl rfl (Yv.assign rfl).yl ?_
  refine SOps.nil ?_
  refine Run.seq ?_
  refine Run.seq ?_
  refine Run.quiet (by intro h; cases h) ?_
  refine QOps.st rfl rfl (Yv.move rfl).yl ?_
  refine QOps.st rfl rfl (Yv.move rfl).yl ?_
  refine QOps.st rfl rfl (Yl.call callable57 (.cons rfl (.cons rfl (.nil))) (fun w' hw' => isPace_spec ((Rd.arg hs) w' hw'))) ?_
  refine QOps.st rfl rfl (Yv.not rfl).yl ?_
  refine QOps.st rfl rfl (Yv.move rfl).yl ?_
  refine' QOps.or [_, _, _] _ (.tmp 18) rfl rfl rfl rfl rfl rfl (fun hg1 => ?_) ?_
  rotate_left
  · try replace hg1 := of_decide_eq_false hg1
    refine QOps.st rfl rfl (Yv.move rfl).yl ?_
    refine QOps.st rfl rfl (Yl.call callable62 (.cons rfl (.nil)) (fun w' hw' => isPosition_spec)) ?_
    refine QOps.st rfl rfl (Yv.not rfl).yl ?_
    exact QOps.nil rfl
  refine QOps.nil ?_
  refine Run.cond rfl (fun hc1 => ?_) (fun hc1 => ?_)
  · try replace hc1 := of_decide_eq_true hc1
    have hn : ¬ (areFixes fs && inB pace 0 500 && inB place 0 100000) = true := by revert hc1; cases areFixes fs <;> cases inB pace 0 500 <;> cases inB place 0 100000 <;> simp
    refine Run.seq ?_
    refine Run.ops ?_
    refine SOps.st rfl rfl (Yv.buildG (pv := []) (cs := [_, _]) (fun _ => [.int .i64 0, .int .i64 0]) .nil rfl rfl (by kernel_rfl)).yl ?_
    refine SOps.one rfl (One.store (i := 0) (off := 0) (vs := [_, _]) (cs' := [_, _]) (H' := [_]) lay54 rfl rfl rfl rfl rfl rfl rfl rfl rfl rfl ?_)
    refine SOps.st rfl rfl (Yv.assign rfl).yl ?_
    refine SOps.nil ?_
    refine Run.ret ?_
    refine retQ.of (.inr rfl) rfl (.cells (i := 0) rfl lay54 rfl rfl (.tmp rfl .nil)) (fun w' hw' => ?_)
    refine ⟨?_, hw'.bel.below⟩
    unfold passOf; rw [if_neg hn]; rfl
  · try replace hc1 := of_decide_eq_false hc1
    have hy : (areFixes fs && inB pace 0 500 && inB place 0 100000) = true := by revert hc1; cases areFixes fs <;> cases inB pace 0 500 <;> cases inB place 0 100000 <;> simp
    have hyy := hy
    simp only [Bool.and_eq_true] at hyy
    obtain ⟨⟨hg0, hg1⟩, hg2⟩ := hyy
    have hok0 := areFixes_all hg0
    have hlen0 := (areFixes_ok hg0)
    have hb1 := inB_iff.1 hg1
    have hb2 := inB_iff.1 hg2
    have ok0 := hok0 0 (by omega)
    have ok1 := hok0 (fs.length - 1) (by omega)
    unfold Fix.ok at ok0 ok1
    have hmx := Sl.lenle hs
    refine Run.skip ?_
    refine Run.seq ?_
    refine Run.ops ?_
    refine SOps.st rfl rfl (Yv.buildG (pv := []) (cs := [_, _]) (fun _ => [.int .i64 0, .int .i64 0]) .nil rfl rfl (by kernel_rfl)).yl ?_
    refine SOps.one rfl (One.alloc rfl zero54 (fun b2 => ?_))
    refine SOps.one rfl (One.store (i := 0) (off := 0) (vs := [_, _]) (cs' := [_, _]) (H' := [_, _]) lay54 rfl rfl rfl rfl rfl rfl rfl rfl rfl rfl ?_)
    refine SOps.st rfl rfl (Yv.assign rfl).yl ?_
    refine SOps.nil ?_
    refine Run.seq ?_
    refine Run.seq ?_
    refine Run.quiet (by intro h; cases h) ?_
    refine QOps.st rfl rfl (Yv.move rfl).yl ?_
    refine QOps.st rfl rfl (Yv.indexAddr 0 el25 rfl rfl rfl (Rd.arg hs) (by omega)).yl ?_
    refine QOps.st rfl rfl (Yv.fieldAddr fld49_0 rfl).yl ?_
    refine QOps.st rfl rfl (Yv.loadF lay3 rfl Fix.len (Rd.arg hs) (by first | omega | (simp; omega)) (by decide) rfl).yl ?_
    refine QOps.st rfl rfl (Yv.assign rfl).yl ?_
    refine QOps.nil ?_
    refine Run.block ?_
    refine Run.loop (S := Nat × Int × Int × Bool) (fun s => match s with | (k, a, b, y) => (nth fs 0).minute + (k : Int) ≤ max ((nth fs (fs.length - 1)).minute + 1) (nth fs 0).minute ∧ passTo fs pace place (nth fs 0).minute k = (⟨a, b⟩, y)) (fun s => match s with | (k, a, b, y) => [(0, .slice A fs.length c), (1, .int .i64 pace), (2, .int .i64 place), (6, .pointer (some ⟨b1, 0, none⟩)), (8, .pointer (some ⟨b2, 0, none⟩)), (9, .bool y), (10, .int .i64 ((nth fs 0).minute + (k : Int)))]) (fun s => match s with | (k, a, b, y) => [.blk b2 54 [.int .i64 a, .int .i64 b], .blk b1 54 [.int .i64 0, .int .i64 0]]) (fun s => match s with | (k, a, b, y) => ((nth fs (fs.length - 1)).minute + 1 - ((nth fs 0).minute + (k : Int))).toNat) (0, 0, 0, false) ?_ (SubE.cons rfl (SubE.cons rfl (SubE.cons rfl (SubE.cons rfl (SubE.cons rfl (SubE.cons rfl (SubE.cons (congrArg some (by simp)) (SubE.nil _)))))))) (List.Sublist.refl _) ?_
    · exact ⟨by omega, rfl⟩
    · rintro ⟨k, a, b, y⟩ ⟨hk, hst⟩
      show Run _ _ _ _ _ [(0, .slice A fs.length c), (1, .int .i64 pace), (2, .int .i64 place), (6, .pointer (some ⟨b1, 0, none⟩)), (8, .pointer (some ⟨b2, 0, none⟩)), (9, .bool y), (10, .int .i64 ((nth fs 0).minute + (k : Int)))] [.blk b2 54 [.int .i64 a, .int .i64 b], .blk b1 54 [.int .i64 0, .int .i64 0]] _
      refine Run.seq ?_
      refine Run.seq ?_
      refine Run.quiet (by intro h; cases h) ?_
      refine QOps.st rfl rfl (Yv.move rfl).yl ?_
      refine QOps.st rfl rfl (Yv.move rfl).yl ?_
      refine QOps.st rfl rfl (Yv.move rfl).yl ?_
      refine QOps.st rfl rfl (Yv.lenS el25s rfl).yl ?_
      refine QOps.st rfl rfl (Yv.sub rfl rfl (by omega)).yl ?_
      refine QOps.st rfl rfl (Yv.indexAddr (fs.length - 1) el25 rfl rfl (by omega) (Rd.arg hs) (by omega)).yl ?_
      refine QOps.st rfl rfl (Yv.fieldAddr fld49_0 rfl).yl ?_
      refine QOps.st rfl rfl (Yv.loadF lay3 rfl Fix.len (Rd.arg hs) (by first | omega | (simp; omega)) (by decide) rfl).yl ?_
      refine QOps.st rfl rfl (Yv.leq rfl rfl).yl ?_
      refine QOps.nil ?_
      refine Run.cond rfl (fun hc2 => ?_) (fun hc2 => ?_)
      · try replace hc2 := of_decide_eq_true hc2
        refine Run.skip ?_
        refine Run.seq ?_
        refine Run.block ?_
        refine Run.seq ?_
        refine Run.seq ?_
        refine Run.quiet (by intro h; cases h) ?_
        refine QOps.st rfl rfl (Yv.move rfl).yl ?_
        refine QOps.st rfl rfl (Yv.move rfl).yl ?_
        refine QOps.st rfl rfl (Yv.move rfl).yl ?_
        refine QOps.st rfl rfl (Yv.move rfl).yl ?_
        refine QOps.st rfl rfl (Yl.call callable63 (.cons rfl (.cons rfl (.cons rfl (.cons rfl (.nil))))) (fun w' hw' => mayBeAt_spec ((Rd.arg hs) w' hw') (by assumption) (by omega) (by omega) (by omega) (by omega) (by omega))) ?_
        refine QOps.st rfl rfl (Yv.not rfl).yl ?_
        refine QOps.nil ?_
        refine Run.cond rfl (fun hc3 => ?_) (fun hc3 => ?_)
        · try replace hc3 := of_decide_eq_true hc3
          refine Run.exit ?_
          refine Run.quiet (by intro h; cases h) ?_
          refine QOps.st rfl rfl (Yv.move rfl).yl ?_
          refine QOps.st rfl rfl (Yv.add rfl rfl (by omega)).yl ?_
          refine QOps.st rfl rfl (Yv.assign rfl).yl ?_
          refine QOps.nil ?_
          refine ⟨(k + 1, a, b, y), ?_, ?_, (SubE.cons rfl (SubE.cons rfl (SubE.cons rfl (SubE.cons rfl (SubE.cons rfl (SubE.cons rfl (SubE.cons (congrArg some (by push_cast; rw [Int.add_assoc])) (SubE.nil _)))))))), (List.Sublist.refl _)⟩
          · exact ⟨by omega, by rw [passTo, if_neg (by simpa using hc3)]; exact hst⟩
          · first | omega | (dsimp only; omega)
        · try replace hc3 := of_decide_eq_false hc3
          refine Run.skip ?_
          refine Run.seq ?_
          refine Run.seq ?_
          refine Run.quiet (by intro h; cases h) ?_
          refine QOps.st rfl rfl (Yv.move rfl).yl ?_
          refine QOps.st rfl rfl (Yv.not rfl).yl ?_
          refine QOps.nil ?_
          refine Run.cond rfl (fun hc4 => ?_) (fun hc4 => ?_)
          · try replace hc4 := of_decide_eq_true hc4
            refine Run.ops ?_
            refine SOps.st rfl rfl (Yv.move rfl).yl ?_
            refine SOps.st rfl rfl (Yv.fieldAddr fld54_0 rfl).yl ?_
            refine SOps.one rfl (One.store (i := 0) (off := 0) (vs := [_]) (cs' := [_, _]) (H' := [_, _]) lay3 rfl rfl rfl rfl rfl rfl rfl rfl rfl rfl ?_)
            refine SOps.st rfl rfl (Yv.assign rfl).yl ?_
            refine SOps.nil ?_
            refine Run.ops ?_
            refine SOps.st rfl rfl (Yv.move rfl).yl ?_
            refine SOps.st rfl rfl (Yv.fieldAddr fld54_1 rfl).yl ?_
            refine SOps.one rfl (One.store (i := 0) (off := 1) (vs := [_]) (cs' := [_, _]) (H' := [_, _]) lay3 rfl rfl rfl rfl rfl rfl rfl rfl rfl rfl ?_)
            refine SOps.nil ?_
            refine Run.quiet (by intro h; cases h) ?_
            refine QOps.st rfl rfl (Yv.move rfl).yl ?_
            refine QOps.st rfl rfl (Yv.add rfl rfl (by omega)).yl ?_
            refine QOps.st rfl rfl (Yv.assign rfl).yl ?_
            refine QOps.nil ?_
            refine ⟨(k + 1, _, _, true), ?_, ?_, (SubE.cons rfl (SubE.cons rfl (SubE.cons rfl (SubE.cons rfl (SubE.cons rfl (SubE.cons rfl (SubE.cons (congrArg some (by push_cast; rw [Int.add_assoc])) (SubE.nil _)))))))), (List.Sublist.refl _)⟩
            · exact ⟨by omega, by rw [passTo, if_pos (by simpa using hc3), hst]; simp at hc4; simp [hc4]⟩
            · first | omega | (dsimp only; omega)
          · try replace hc4 := of_decide_eq_false hc4
            refine Run.skip ?_
            refine Run.ops ?_
            refine SOps.st rfl rfl (Yv.move rfl).yl ?_
            refine SOps.st rfl rfl (Yv.fieldAddr fld54_1 rfl).yl ?_
            refine SOps.one rfl (One.store (i := 0) (off := 1) (vs := [_]) (cs' := [_, _]) (H' := [_, _]) lay3 rfl rfl rfl rfl rfl rfl rfl rfl rfl rfl ?_)
            refine SOps.nil ?_
            refine Run.quiet (by intro h; cases h) ?_
            refine QOps.st rfl rfl (Yv.move rfl).yl ?_
            refine QOps.st rfl rfl (Yv.add rfl rfl (by omega)).yl ?_
            refine QOps.st rfl rfl (Yv.assign rfl).yl ?_
            refine QOps.nil ?_
            refine ⟨(k + 1, _, _, true), ?_, ?_, (SubE.cons rfl (SubE.cons rfl (SubE.cons rfl (SubE.cons rfl (SubE.cons rfl (SubE.cons (congrArg some (by first | rfl | (simp at hc4; rw [hc4]))) (SubE.cons (congrArg some (by push_cast; rw [Int.add_assoc])) (SubE.nil _)))))))), (List.Sublist.refl _)⟩
            · exact ⟨by omega, by rw [passTo, if_pos (by simpa using hc3), hst]; simp at hc4; simp [hc4]⟩
            · first | omega | (dsimp only; omega)
      · try replace hc2 := of_decide_eq_false hc2
        refine Run.exit ?_
        refine Run.seq ?_
        refine Run.ops ?_
        refine SOps.st rfl rfl (Yv.loadBs (i := 0) lay54 rfl rfl rfl rfl).yl ?_
        refine SOps.st rfl rfl (Yv.move rfl).yl ?_
        refine SOps.one rfl (One.store (i := 1) (off := 0) (vs := [_, _]) (cs' := [_, _]) (H' := [_, _]) lay54 rfl rfl rfl rfl rfl rfl rfl rfl rfl rfl ?_)
        refine SOps.st rfl rfl (Yv.assign rfl).yl ?_
        refine SOps.nil ?_
        refine Run.ret ?_
        obtain rfl : k = ((nth fs (fs.length - 1)).minute + 1 - (nth fs 0).minute).toNat := by omega
        refine retQ.of (.inr rfl) rfl (.cells (i := 1) rfl lay54 rfl rfl (.tmp rfl .nil)) (fun w' hw' => ?_)
        refine ⟨?_, hw'.bel.below⟩
        unfold passOf; rw [if_pos hy, hst]; rfl
theorem sPassingMinutes_spec {w : World} {A : Option Addr} {c : Nat} {fs : List Fix} {pace place : Int} (hs : Sl w 3 A fs.length c (fs.flatMap Fix.enc)) :
    Calls Try.prog 37 #[.slice A fs.length c, .int .i64 pace, .int .i64 place] w (RetB w (.tuple #[.agg (passOf fs pace place).1.enc.toArray, .bool (passOf fs pace place).2])) := by
  refine calls_of_run (vs := [_, _, _]) (L := [(0, _), (1, _), (2, _)]) (n := 55) (F := []) (H := []) Try.func37 rfl rfl rfl rfl (HOk.start _) ?_
  refine Run.seq ?_
  refine Run.ops ?_
  refine SOps.one rfl (One.alloc rfl zero54 (fun b1 => ?_))
  refine SOps.st rfl rfl (Yv.assign rfl).yl ?_
  refine SOps.nil ?_
  refine Run.seq ?_
  refine Run.seq ?_
  refine Run.quiet (by intro h; cases h) ?_
  refine QOps.st rfl rfl (Yv.move rfl).yl ?_
  refine QOps.st rfl rfl (Yl.call callable51 (.cons rfl (.nil)) (fun w' hw' => l21Good_spec ((Rd.arg hs) w' hw'))) ?_
  refine QOps.st rfl rfl (Yv.not rfl).yl ?_
  refine QOps.st rfl rfl (Yv.move rfl).yl ?_
  refine' QOps.or [_, _, _] _ (.tmp 17) rfl rfl rfl rfl rfl rfl (fun hg1 => ?_) ?_
  rotate_left
  · try replace hg1 := of_decide_eq_false hg1
    refine QOps.st rfl rfl (Yv.move rfl).yl ?_
    refine QOps.st rfl rfl (Yl.call callable55 (.cons rfl (.nil)) (fun w' hw' => l21Pace_spec)) ?_
    refine QOps.st rfl rfl (Yv.not rfl).yl ?_
    exact QOps.nil rfl
  refine QOps.st rfl rfl (Yv.move rfl).yl ?_
  refine' QOps.or [_, _, _] _ (.tmp 22) rfl rfl rfl rfl rfl rfl (fun hg2 => ?_) ?_
  rotate_left
  · try replace hg2 := of_decide_eq_false hg2
    refine QOps.st rfl rfl (Yv.move rfl).yl ?_
    refine QOps.st rfl rfl (Yl.call callable60 (.cons rfl (.cons rfl (.cons rfl (.nil)))) (fun w' hw' => l1In_spec)) ?_
    refine QOps.st rfl rfl (Yv.not rfl).yl ?_
    exact QOps.nil rfl
  refine QOps.nil ?_
  refine Run.cond rfl (fun hc1 => ?_) (fun hc1 => ?_)
  · try replace hc1 := of_decide_eq_true hc1
    have hn : ¬ (areFixes fs && inB pace 0 500 && inB place 0 100000) = true := by revert hc1; cases areFixes fs <;> cases inB pace 0 500 <;> cases inB place 0 100000 <;> simp
    refine Run.seq ?_
    refine Run.ops ?_
    refine SOps.st rfl rfl (Yv.buildG (pv := []) (cs := [_, _]) (fun _ => [.int .i64 0, .int .i64 0]) .nil rfl rfl (by kernel_rfl)).yl ?_
    refine SOps.one rfl (One.store (i := 0) (off := 0) (vs := [_, _]) (cs' := [_, _]) (H' := [_]) lay54 rfl rfl rfl rfl rfl rfl rfl rfl rfl rfl ?_)
    refine SOps.st rfl rfl (Yv.assign rfl).yl ?_
    refine SOps.nil ?_
    refine Run.ret ?_
    refine retQ.of (.inr rfl) rfl (.cells (i := 0) rfl lay54 rfl rfl (.tmp rfl .nil)) (fun w' hw' => ?_)
    refine ⟨?_, hw'.bel.below⟩
    unfold passOf; rw [if_neg hn]; rfl
  · try replace hc1 := of_decide_eq_false hc1
    have hy : (areFixes fs && inB pace 0 500 && inB place 0 100000) = true := by revert hc1; cases areFixes fs <;> cases inB pace 0 500 <;> cases inB place 0 100000 <;> simp
    have hyy := hy
    simp only [Bool.and_eq_true] at hyy
    obtain ⟨⟨hg0, hg1⟩, hg2⟩ := hyy
    have hok0 := areFixes_all hg0
    have hlen0 := (areFixes_ok hg0)
    have hb1 := inB_iff.1 hg1
    have hb2 := inB_iff.1 hg2
    have ok0 := hok0 0 (by omega)
    have ok1 := hok0 (fs.length - 1) (by omega)
    unfold Fix.ok at ok0 ok1
    have hmx := Sl.lenle hs
    refine Run.skip ?_
    refine Run.seq ?_
    refine Run.ops ?_
    refine SOps.st rfl rfl (Yv.buildG (pv := []) (cs := [_, _]) (fun _ => [.int .i64 0, .int .i64 0]) .nil rfl rfl (by kernel_rfl)).yl ?_
    refine SOps.one rfl (One.alloc rfl zero54 (fun b2 => ?_))
    refine SOps.one rfl (One.store (i := 0) (off := 0) (vs := [_, _]) (cs' := [_, _]) (H' := [_, _]) lay54 rfl rfl rfl rfl rfl rfl rfl rfl rfl rfl ?_)
    refine SOps.st rfl rfl (Yv.assign rfl).yl ?_
    refine SOps.nil ?_
    refine Run.seq ?_
    refine Run.seq ?_
    refine Run.quiet (by intro h; cases h) ?_
    refine QOps.st rfl rfl (Yv.move rfl).yl ?_
    refine QOps.st rfl rfl (Yv.indexAddr 0 el25 rfl rfl rfl (Rd.arg hs) (by omega)).yl ?_
    refine QOps.st rfl rfl (Yv.fieldAddr fld49_0 rfl).yl ?_
    refine QOps.st rfl rfl (Yv.loadF lay3 rfl Fix.len (Rd.arg hs) (by first | omega | (simp; omega)) (by decide) rfl).yl ?_
    refine QOps.st rfl rfl (Yv.assign rfl).yl ?_
    refine QOps.nil ?_
    refine Run.block ?_
    refine Run.loop (S := Nat × Int × Int × Bool) (fun s => match s with | (k, a, b, y) => (nth fs 0).minute + (k : Int) ≤ max ((nth fs (fs.length - 1)).minute + 1) (nth fs 0).minute ∧ passTo fs pace place (nth fs 0).minute k = (⟨a, b⟩, y)) (fun s => match s with | (k, a, b, y) => [(0, .slice A fs.length c), (1, .int .i64 pace), (2, .int .i64 place), (6, .pointer (some ⟨b1, 0, none⟩)), (8, .pointer (some ⟨b2, 0, none⟩)), (9, .bool y), (10, .int .i64 ((nth fs 0).minute + (k : Int)))]) (fun s => match s with | (k, a, b, y) => [.blk b2 54 [.int .i64 a, .int .i64 b], .blk b1 54 [.int .i64 0, .int .i64 0]]) (fun s => match s with | (k, a, b, y) => ((nth fs (fs.length - 1)).minute + 1 - ((nth fs 0).minute + (k : Int))).toNat) (0, 0, 0, false) ?_ (SubE.cons rfl (SubE.cons rfl (SubE.cons rfl (SubE.cons rfl (SubE.cons rfl (SubE.cons rfl (SubE.cons (congrArg some (by simp)) (SubE.nil _)))))))) (List.Sublist.refl _) ?_
    · exact ⟨by omega, rfl⟩
    · rintro ⟨k, a, b, y⟩ ⟨hk, hst⟩
      show Run _ _ _ _ _ [(0, .slice A fs.length c), (1, .int .i64 pace), (2, .int .i64 place), (6, .pointer (some ⟨b1, 0, none⟩)), (8, .pointer (some ⟨b2, 0, none⟩)), (9, .bool y), (10, .int .i64 ((nth fs 0).minute + (k : Int)))] [.blk b2 54 [.int .i64 a, .int .i64 b], .blk b1 54 [.int .i64 0, .int .i64 0]] _
      refine Run.seq ?_
      refine Run.seq ?_
      refine Run.quiet (by intro h; cases h) ?_
      refine QOps.st rfl rfl (Yv.move rfl).yl ?_
      refine QOps.st rfl rfl (Yv.move rfl).yl ?_
      refine QOps.st rfl rfl (Yv.move rfl).yl ?_
      refine QOps.st rfl rfl (Yv.lenS el25s rfl).yl ?_
      refine QOps.st rfl rfl (Yv.sub rfl rfl (by omega)).yl ?_
      refine QOps.st rfl rfl (Yv.indexAddr (fs.length - 1) el25 rfl rfl (by omega) (Rd.arg hs) (by omega)).yl ?_
      refine QOps.st rfl rfl (Yv.fieldAddr fld49_0 rfl).yl ?_
      refine QOps.st rfl rfl (Yv.loadF lay3 rfl Fix.len (Rd.arg hs) (by first | omega | (simp; omega)) (by decide) rfl).yl ?_
      refine QOps.st rfl rfl (Yv.leq rfl rfl).yl ?_
      refine QOps.nil ?_
      refine Run.cond rfl (fun hc2 => ?_) (fun hc2 => ?_)
      · try replace hc2 := of_decide_eq_true hc2
        refine Run.skip ?_
        refine Run.seq ?_
        refine Run.block ?_
        refine Run.seq ?_
        refine Run.seq ?_
        refine Run.quiet (by intro h; cases h) ?_
        refine QOps.st rfl rfl (Yv.move rfl).yl ?_
        refine QOps.st rfl rfl (Yv.move rfl).yl ?_
        refine QOps.st rfl rfl (Yv.move rfl).yl ?_
        refine QOps.st rfl rfl (Yv.move rfl).yl ?_
        refine QOps.st rfl rfl (Yl.call callable61 (.cons rfl (.cons rfl (.cons rfl (.cons rfl (.nil))))) (fun w' hw' => l21May_spec ((Rd.arg hs) w' hw') (by assumption) (by omega) (by omega) (by omega) (by omega))) ?_
        refine QOps.st rfl rfl (Yv.not rfl).yl ?_
        refine QOps.nil ?_
        refine Run.cond rfl (fun hc3 => ?_) (fun hc3 => ?_)
        · try replace hc3 := of_decide_eq_true hc3
          refine Run.exit ?_
          refine Run.quiet (by intro h; cases h) ?_
          refine QOps.st rfl rfl (Yv.move rfl).yl ?_
          refine QOps.st rfl rfl (Yv.add rfl rfl (by omega)).yl ?_
          refine QOps.st rfl rfl (Yv.assign rfl).yl ?_
          refine QOps.nil ?_
          refine ⟨(k + 1, a, b, y), ?_, ?_, (SubE.cons rfl (SubE.cons rfl (SubE.cons rfl (SubE.cons rfl (SubE.cons rfl (SubE.cons rfl (SubE.cons (congrArg some (by push_cast; rw [Int.add_assoc])) (SubE.nil _)))))))), (List.Sublist.refl _)⟩
          · exact ⟨by omega, by rw [passTo, if_neg (by simpa using hc3)]; exact hst⟩
          · first | omega | (dsimp only; omega)
        · try replace hc3 := of_decide_eq_false hc3
          refine Run.skip ?_
          refine Run.seq ?_
          refine Run.seq ?_
          refine Run.quiet (by intro h; cases h) ?_
          refine QOps.st rfl rfl (Yv.move rfl).yl ?_
          refine QOps.st rfl rfl (Yv.not rfl).yl ?_
          refine QOps.nil ?_
          refine Run.cond rfl (fun hc4 => ?_) (fun hc4 => ?_)
          · try replace hc4 := of_decide_eq_true hc4
            refine Run.ops ?_
            refine SOps.st rfl rfl (Yv.move rfl).yl ?_
            refine SOps.st rfl rfl (Yv.fieldAddr fld54_0 rfl).yl ?_
            refine SOps.one rfl (One.store (i := 0) (off := 0) (vs := [_]) (cs' := [_, _]) (H' := [_, _]) lay3 rfl rfl rfl rfl rfl rfl rfl rfl rfl rfl ?_)
            refine SOps.nil ?_
            refine Run.seq ?_
            refine Run.ops ?_
            refine SOps.st rfl rfl (Yv.move rfl).yl ?_
            refine SOps.st rfl rfl (Yv.fieldAddr fld54_1 rfl).yl ?_
            refine SOps.one rfl (One.store (i := 0) (off := 1) (vs := [_]) (cs' := [_, _]) (H' := [_, _]) lay3 rfl rfl rfl rfl rfl rfl rfl rfl rfl rfl ?_)
            refine SOps.nil ?_
            refine Run.quiet (by intro h; cases h) ?_
            refine QOps.st rfl rfl (Yv.assign rfl).yl ?_
            refine QOps.nil ?_
            refine Run.quiet (by intro h; cases h) ?_
            refine QOps.st rfl rfl (Yv.move rfl).yl ?_
            refine QOps.st rfl rfl (Yv.add rfl rfl (by omega)).yl ?_
            refine QOps.st rfl rfl (Yv.assign rfl).yl ?_
            refine QOps.nil ?_
            refine ⟨(k + 1, _, _, true), ?_, ?_, (SubE.cons rfl (SubE.cons rfl (SubE.cons rfl (SubE.cons rfl (SubE.cons rfl (SubE.cons rfl (SubE.cons (congrArg some (by push_cast; rw [Int.add_assoc])) (SubE.nil _)))))))), (List.Sublist.refl _)⟩
            · exact ⟨by omega, by rw [passTo, if_pos (by simpa using hc3), hst]; simp at hc4; simp [hc4]⟩
            · first | omega | (dsimp only; omega)
          · try replace hc4 := of_decide_eq_false hc4
            refine Run.skip ?_
            refine Run.seq ?_
            refine Run.ops ?_
            refine SOps.st rfl rfl (Yv.move rfl).yl ?_
            refine SOps.st rfl rfl (Yv.fieldAddr fld54_1 rfl).yl ?_
            refine SOps.one rfl (One.store (i := 0) (off := 1) (vs := [_]) (cs' := [_, _]) (H' := [_, _]) lay3 rfl rfl rfl rfl rfl rfl rfl rfl rfl rfl ?_)
            refine SOps.nil ?_
            refine Run.quiet (by intro h; cases h) ?_
            refine QOps.st rfl rfl (Yv.assign rfl).yl ?_
            refine QOps.nil ?_
            refine Run.quiet (by intro h; cases h) ?_
            refine QOps.st rfl rfl (Yv.move rfl).yl ?_
            refine QOps.st rfl rfl (Yv.add rfl rfl (by omega)).yl ?_
            refine QOps.st rfl rfl (Yv.assign rfl).yl ?_
            refine QOps.nil ?_
            refine ⟨(k + 1, _, _, true), ?_, ?_, (SubE.cons rfl (SubE.cons rfl (SubE.cons rfl (SubE.cons rfl (SubE.cons rfl (SubE.cons (congrArg some (by first | rfl | (simp at hc4; rw [hc4]))) (SubE.cons (congrArg some (by push_cast; rw [Int.add_assoc])) (SubE.nil _)))))))), (List.Sublist.refl _)⟩
            · exact ⟨by omega, by rw [passTo, if_pos (by simpa using hc3), hst]; simp at hc4; simp [hc4]⟩
            · first | omega | (dsimp only; omega)
      · try replace hc2 := of_decide_eq_false hc2
        refine Run.exit ?_
        refine Run.seq ?_
        refine Run.ops ?_
        refine SOps.st rfl rfl (Yv.loadBs (i := 0) lay54 rfl rfl rfl rfl).yl ?_
        refine SOps.st rfl rfl (Yv.move rfl).yl ?_
        refine SOps.one rfl (One.store (i := 1) (off := 0) (vs := [_, _]) (cs' := [_, _]) (H' := [_, _]) lay54 rfl rfl rfl rfl rfl rfl rfl rfl rfl rfl ?_)
        refine SOps.st rfl rfl (Yv.assign rfl).yl ?_
        refine SOps.nil ?_
        refine Run.ret ?_
        obtain rfl : k = ((nth fs (fs.length - 1)).minute + 1 - (nth fs 0).minute).toNat := by omega
        refine retQ.of (.inr rfl) rfl (.cells (i := 1) rfl lay54 rfl rfl (.tmp rfl .nil)) (fun w' hw' => ?_)
        refine ⟨?_, hw'.bel.below⟩
        unfold passOf; rw [if_pos hy, hst]; rfl

theorem FnExactMayBeAt_spec {w : World} {A : Option Addr} {c : Nat} {fs : List Fix} {pace minute place : Int} (hs : Sl w 3 A fs.length c (fs.flatMap Fix.enc)) (hb : 24 * fs.length ≤ 281474976710656) :
    Calls Try.prog 6 #[.slice A fs.length c, .int .i64 pace, .int .i64 minute, .int .i64 place] w (RetB w (.bool true)) := by
  refine calls_of_run (vs := [_, _, _, _]) (L := [(0, _), (1, _), (2, _), (3, _)]) (n := 52) (F := []) (H := []) Try.func6 rfl rfl rfl rfl (HOk.start _) ?_
  refine Run.seq ?_
  refine Run.quiet (by intro h; cases h) ?_
  refine QOps.st rfl rfl (Yv.assign rfl).yl ?_
  refine QOps.nil ?_
  refine Run.seq ?_
  refine Run.quiet (by intro h; cases h) ?_
  refine QOps.st rfl rfl (Yv.assign rfl).yl ?_
  refine QOps.nil ?_
  refine Run.seq ?_
  refine Run.quiet (by intro h; cases h) ?_
  refine QOps.st rfl rfl (Yv.move rfl).yl ?_
  refine QOps.st rfl rfl (Yv.move rfl).yl ?_
  refine QOps.st rfl rfl (Yl.call callable14 (.cons rfl (.cons rfl (.nil))) (fun w' hw' => szFixS_spec (by omega) (by omega) (by omega))) ?_
  refine QOps.st rfl rfl (Yv.assign rfl).yl ?_
  refine QOps.nil ?_
  refine Run.seq ?_
  refine Run.seq ?_
  refine Run.quiet (by intro h; cases h) ?_
  refine QOps.st rfl rfl (Yv.move rfl).yl ?_
  refine QOps.st rfl rfl (Yv.lss rfl rfl).yl ?_
  refine QOps.nil ?_
  refine Run.cond rfl (fun hc1 => ?_) (fun hc1 => ?_)
  · try replace hc1 := of_decide_eq_true hc1
    refine Run.seq ?_
    refine Run.quiet (by intro h; cases h) ?_
    refine QOps.st rfl rfl (Yv.assign rfl).yl ?_
    refine QOps.nil ?_
    refine Run.ret ?_
    refine retQ.of (.inr rfl) rfl (.tmp rfl .nil) (fun w' hw' => ?_)
    refine ⟨?_, hw'.bel.below⟩
    exact rfl
  · try replace hc1 := of_decide_eq_false hc1
    refine Run.skip ?_
    refine Run.seq ?_
    refine Run.ops ?_
    refine SOps.st rfl rfl (Yv.move rfl).yl ?_
    refine SOps.one rfl (One.callRow rfl callable16 (.cons rfl (.nil)) (fun w' hw' => toFixS_spec ((Rd.arg hs) w' hw') (by omega)) (fun A1 c1 => ?_))
    refine SOps.st rfl rfl (Yv.move rfl).yl ?_
    refine SOps.st rfl rfl (Yv.move rfl).yl ?_
    refine SOps.st rfl rfl (Yv.move rfl).yl ?_
    refine SOps.st rfl rfl (Yl.call callable23 (.cons rfl (.cons rfl (.cons rfl (.cons rfl (.nil))))) (fun w' hw' => sMayBeAt_spec ((Rd.row (i := 0) rfl) w' hw'))) ?_
    refine SOps.st rfl rfl (Yv.move rfl).yl ?_
    refine SOps.st rfl rfl (Yv.extract rfl rfl).yl ?_
    refine SOps.st rfl rfl (Yv.extract rfl rfl).yl ?_
    refine SOps.st rfl rfl (Yv.assign rfl).yl ?_
    refine SOps.st rfl rfl (Yv.assign rfl).yl ?_
    refine SOps.nil ?_
    refine Run.seq ?_
    refine Run.ops ?_
    refine SOps.st rfl rfl (Yv.move rfl).yl ?_
    refine SOps.one rfl (One.callRow rfl callable16 (.cons rfl (.nil)) (fun w' hw' => toFixS_spec ((Rd.arg hs) w' hw') (by omega)) (fun A2 c2 => ?_))
    refine SOps.st rfl rfl (Yv.assign rfl).yl ?_
    refine SOps.nil ?_
    refine Run.seq ?_
    refine Run.quiet (by intro h; cases h) ?_
    refine QOps.st rfl rfl (Yv.move rfl).yl ?_
    refine QOps.st rfl rfl (Yv.move rfl).yl ?_
    refine QOps.st rfl rfl (Yv.move rfl).yl ?_
    refine QOps.st rfl rfl (Yv.move rfl).yl ?_
    refine QOps.st rfl rfl (Yl.call callable24 (.cons rfl (.cons rfl (.cons rfl (.cons rfl (.nil))))) (fun w' hw' => MayBeAt_spec ((Rd.row (i := 0) rfl) w' hw'))) ?_
    refine QOps.st rfl rfl (Yv.move rfl).yl ?_
    refine QOps.st rfl rfl (Yv.extract rfl rfl).yl ?_
    refine QOps.st rfl rfl (Yv.extract rfl rfl).yl ?_
    refine QOps.st rfl rfl (Yv.assign rfl).yl ?_
    refine QOps.st rfl rfl (Yv.assign rfl).yl ?_
    refine QOps.nil ?_
    refine Run.seq ?_
    refine Run.seq ?_
    refine Run.quiet (by intro h; cases h) ?_
    refine QOps.st rfl rfl (Yv.move rfl).yl ?_
    refine QOps.st rfl rfl (Yv.move rfl).yl ?_
    refine QOps.st rfl rfl (Yv.neB bool4 rfl rfl).yl ?_
    refine QOps.st rfl rfl (Yv.move rfl).yl ?_
    refine' QOps.or [_, _, _] _ (.tmp 45) rfl rfl rfl rfl rfl rfl (fun hg1 => ?_) ?_
    rotate_left
    · try replace hg1 := of_decide_eq_false hg1
      refine QOps.st rfl rfl (Yv.move rfl).yl ?_
      refine QOps.st rfl rfl (Yv.move rfl).yl ?_
      refine QOps.st rfl rfl (Yv.neB bool4 rfl rfl).yl ?_
      exact QOps.nil rfl
    refine QOps.nil ?_
    refine Run.cond rfl (fun hc2 => ?_) (fun hc2 => ?_)
    · exfalso
      simp at hc2
    · try replace hc2 := of_decide_eq_false hc2
      refine Run.skip ?_
      refine Run.seq ?_
      refine Run.seq ?_
      refine Run.ops ?_
      refine SOps.st rfl rfl (Yv.move rfl).yl ?_
      refine SOps.st rfl rfl (Yv.move rfl).yl ?_
      refine SOps.one rfl (One.callRow rfl callable16 (.cons rfl (.nil)) (fun w' hw' => toFixS_spec ((Rd.arg hs) w' hw') (by omega)) (fun A3 c3 => ?_))
      refine SOps.st rfl rfl (Yl.call callable18 (.cons rfl (.cons rfl (.nil))) (fun w' hw' => eqFixS_spec ((Rd.row (i := 1) rfl) w' hw') ((Rd.row (i := 0) rfl) w' hw'))) ?_
      refine SOps.st rfl rfl (Yv.not rfl).yl ?_
      refine SOps.nil ?_
      refine Run.cond rfl (fun hc3 => ?_) (fun hc3 => ?_)
      · exfalso
        simp at hc3
      · try replace hc3 := of_decide_eq_false hc3
        refine Run.skip ?_
        refine Run.seq ?_
        refine Run.quiet (by intro h; cases h) ?_
        refine QOps.st rfl rfl (Yv.assign rfl).yl ?_
        refine QOps.nil ?_
        refine Run.ret ?_
        refine retQ.of (.inr rfl) rfl (.tmp rfl .nil) (fun w' hw' => ?_)
        refine ⟨?_, hw'.bel.below⟩
        exact rfl

theorem FnExactSpanAt_spec {w : World} {A : Option Addr} {c : Nat} {fs : List Fix} {pace minute : Int} (hs : Sl w 3 A fs.length c (fs.flatMap Fix.enc)) (hb : 24 * fs.length ≤ 281474976710656) :
    Calls Try.prog 7 #[.slice A fs.length c, .int .i64 pace, .int .i64 minute] w (RetB w (.bool true)) := by
  refine calls_of_run (vs := [_, _, _]) (L := [(0, _), (1, _), (2, _)]) (n := 49) (F := []) (H := []) Try.func7 rfl rfl rfl rfl (HOk.start _) ?_
  refine Run.seq ?_
  refine Run.quiet (by intro h; cases h) ?_
  refine QOps.st rfl rfl (Yv.assign rfl).yl ?_
  refine QOps.nil ?_
  refine Run.seq ?_
  refine Run.quiet (by intro h; cases h) ?_
  refine QOps.st rfl rfl (Yv.assign rfl).yl ?_
  refine QOps.nil ?_
  refine Run.seq ?_
  refine Run.quiet (by intro h; cases h) ?_
  refine QOps.st rfl rfl (Yv.move rfl).yl ?_
  refine QOps.st rfl rfl (Yv.move rfl).yl ?_
  refine QOps.st rfl rfl (Yl.call callable14 (.cons rfl (.cons rfl (.nil))) (fun w' hw' => szFixS_spec (by omega) (by omega) (by omega))) ?_
  refine QOps.st rfl rfl (Yv.assign rfl).yl ?_
  refine QOps.nil ?_
  refine Run.seq ?_
  refine Run.seq ?_
  refine Run.quiet (by intro h; cases h) ?_
  refine QOps.st rfl rfl (Yv.move rfl).yl ?_
  refine QOps.st rfl rfl (Yv.lss rfl rfl).yl ?_
  refine QOps.nil ?_
  refine Run.cond rfl (fun hc1 => ?_) (fun hc1 => ?_)
  · try replace hc1 := of_decide_eq_true hc1
    refine Run.seq ?_
    refine Run.quiet (by intro h; cases h) ?_
    refine QOps.st rfl rfl (Yv.assign rfl).yl ?_
    refine QOps.nil ?_
    refine Run.ret ?_
    refine retQ.of (.inr rfl) rfl (.tmp rfl .nil) (fun w' hw' => ?_)
    refine ⟨?_, hw'.bel.below⟩
    exact rfl
  · try replace hc1 := of_decide_eq_false hc1
    refine Run.skip ?_
    refine Run.seq ?_
    refine Run.ops ?_
    refine SOps.st rfl rfl (Yv.move rfl).yl ?_
    refine SOps.one rfl (One.callRow rfl callable16 (.cons rfl (.nil)) (fun w' hw' => toFixS_spec ((Rd.arg hs) w' hw') (by omega)) (fun A1 c1 => ?_))
    refine SOps.st rfl rfl (Yv.move rfl).yl ?_
    refine SOps.st rfl rfl (Yv.move rfl).yl ?_
    refine SOps.st rfl rfl (Yl.call callable25 (.cons rfl (.cons rfl (.cons rfl (.nil)))) (fun w' hw' => sSpanAt_spec ((Rd.row (i := 0) rfl) w' hw'))) ?_
    refine SOps.st rfl rfl (Yv.move rfl).yl ?_
    refine SOps.st rfl rfl (Yv.extract rfl rfl).yl ?_
    refine SOps.st rfl rfl (Yv.extract rfl rfl).yl ?_
    refine SOps.one rfl (One.alloc rfl zero37 (fun b1 => ?_))
    refine SOps.one rfl (One.store (i := 0) (off := 0) (vs := [_, _]) (cs' := [_, _]) (H' := [_, _]) lay37 rfl rfl rfl rfl rfl rfl rfl rfl rfl rfl ?_)
    refine SOps.st rfl rfl (Yv.assign rfl).yl ?_
    refine SOps.nil ?_
    refine Run.seq ?_
    refine Run.ops ?_
    refine SOps.st rfl rfl (Yv.move rfl).yl ?_
    refine SOps.one rfl (One.callRow rfl callable16 (.cons rfl (.nil)) (fun w' hw' => toFixS_spec ((Rd.arg hs) w' hw') (by omega)) (fun A2 c2 => ?_))
    refine SOps.st rfl rfl (Yv.assign rfl).yl ?_
    refine SOps.nil ?_
    refine Run.seq ?_
    refine Run.ops ?_
    refine SOps.st rfl rfl (Yv.move rfl).yl ?_
    refine SOps.st rfl rfl (Yv.move rfl).yl ?_
    refine SOps.st rfl rfl (Yv.move rfl).yl ?_
    refine SOps.st rfl rfl (Yl.call callable26 (.cons rfl (.cons rfl (.cons rfl (.nil)))) (fun w' hw' => SpanAt_spec ((Rd.row (i := 0) rfl) w' hw'))) ?_
    refine SOps.st rfl rfl (Yv.move rfl).yl ?_
    refine SOps.st rfl rfl (Yv.extract rfl rfl).yl ?_
    refine SOps.st rfl rfl (Yv.extract rfl rfl).yl ?_
    refine SOps.one rfl (One.alloc rfl zero37 (fun b2 => ?_))
    refine SOps.one rfl (One.store (i := 0) (off := 0) (vs := [_, _]) (cs' := [_, _]) (H' := [_, _, _, _]) lay37 rfl rfl rfl rfl rfl rfl rfl rfl rfl rfl ?_)
    refine SOps.st rfl rfl (Yv.assign rfl).yl ?_
    refine SOps.nil ?_
    refine Run.seq ?_
    refine Run.seq ?_
    refine Run.quiet (by intro h; cases h) ?_
    refine QOps.st rfl rfl (Yv.loadBs (i := 0) lay37 rfl rfl rfl rfl).yl ?_
    refine QOps.st rfl rfl (Yv.loadBs (i := 2) lay37 rfl rfl rfl rfl).yl ?_
    refine QOps.st rfl rfl (Yl.call callable27 (.cons rfl (.cons rfl (.nil))) (fun w' hw' => eqSpan_spec (f := ⟨_, _⟩))) ?_
    refine QOps.st rfl rfl (Yv.not rfl).yl ?_
    refine QOps.st rfl rfl (Yv.move rfl).yl ?_
    refine' QOps.or [_, _, _] _ (.tmp 42) rfl rfl rfl rfl rfl rfl (fun hg1 => ?_) ?_
    rotate_left
    · try replace hg1 := of_decide_eq_false hg1
      refine QOps.st rfl rfl (Yv.move rfl).yl ?_
      refine QOps.st rfl rfl (Yv.move rfl).yl ?_
      refine QOps.st rfl rfl (Yv.neB bool4 rfl rfl).yl ?_
      exact QOps.nil rfl
    refine QOps.nil ?_
    refine Run.cond rfl (fun hc2 => ?_) (fun hc2 => ?_)
    · exfalso
      simp at hc2
    · try replace hc2 := of_decide_eq_false hc2
      refine Run.skip ?_
      refine Run.seq ?_
      refine Run.seq ?_
      refine Run.ops ?_
      refine SOps.st rfl rfl (Yv.move rfl).yl ?_
      refine SOps.st rfl rfl (Yv.move rfl).yl ?_
      refine SOps.one rfl (One.callRow rfl callable16 (.cons rfl (.nil)) (fun w' hw' => toFixS_spec ((Rd.arg hs) w' hw') (by omega)) (fun A3 c3 => ?_))
      refine SOps.st rfl rfl (Yl.call callable18 (.cons rfl (.cons rfl (.nil))) (fun w' hw' => eqFixS_spec ((Rd.row (i := 2) rfl) w' hw') ((Rd.row (i := 0) rfl) w' hw'))) ?_
      refine SOps.st rfl rfl (Yv.not rfl).yl ?_
      refine SOps.nil ?_
      refine Run.cond rfl (fun hc3 => ?_) (fun hc3 => ?_)
      · exfalso
        simp at hc3
      · try replace hc3 := of_decide_eq_false hc3
        refine Run.skip ?_
        refine Run.seq ?_
        refine Run.quiet (by intro h; cases h) ?_
        refine QOps.st rfl rfl (Yv.assign rfl).yl ?_
        refine QOps.nil ?_
        refine Run.ret ?_
        refine retQ.of (.inr rfl) rfl (.tmp rfl .nil) (fun w' hw' => ?_)
        refine ⟨?_, hw'.bel.below⟩
        exact rfl

theorem FnExactPassingMinutes_spec {w : World} {A : Option Addr} {c : Nat} {fs : List Fix} {pace place : Int} (hs : Sl w 3 A fs.length c (fs.flatMap Fix.enc)) (hb : 24 * fs.length ≤ 281474976710656) :
    Calls Try.prog 11 #[.slice A fs.length c, .int .i64 pace, .int .i64 place] w (RetB w (.bool true)) := by
  refine calls_of_run (vs := [_, _, _]) (L := [(0, _), (1, _), (2, _)]) (n := 49) (F := []) (H := []) Try.func11 rfl rfl rfl rfl (HOk.start _) ?_
  refine Run.seq ?_
  refine Run.quiet (by intro h; cases h) ?_
  refine QOps.st rfl rfl (Yv.assign rfl).yl ?_
  refine QOps.nil ?_
  refine Run.seq ?_
  refine Run.quiet (by intro h; cases h) ?_
  refine QOps.st rfl rfl (Yv.assign rfl).yl ?_
  refine QOps.nil ?_
  refine Run.seq ?_
  refine Run.quiet (by intro h; cases h) ?_
  refine QOps.st rfl rfl (Yv.move rfl).yl ?_
  refine QOps.st rfl rfl (Yv.move rfl).yl ?_
  refine QOps.st rfl rfl (Yl.call callable14 (.cons rfl (.cons rfl (.nil))) (fun w' hw' => szFixS_spec (by omega) (by omega) (by omega))) ?_
  refine QOps.st rfl rfl (Yv.assign rfl).yl ?_
  refine QOps.nil ?_
  refine Run.seq ?_
  refine Run.seq ?_
  refine Run.quiet (by intro h; cases h) ?_
  refine QOps.st rfl rfl (Yv.move rfl).yl ?_
  refine QOps.st rfl rfl (Yv.lss rfl rfl).yl ?_
  refine QOps.nil ?_
  refine Run.cond rfl (fun hc1 => ?_) (fun hc1 => ?_)
  · try replace hc1 := of_decide_eq_true hc1
    refine Run.seq ?_
    refine Run.quiet (by intro h; cases h) ?_
    refine QOps.st rfl rfl (Yv.assign rfl).yl ?_
    refine QOps.nil ?_
    refine Run.ret ?_
    refine retQ.of (.inr rfl) rfl (.tmp rfl .nil) (fun w' hw' => ?_)
    refine ⟨?_, hw'.bel.below⟩
    exact rfl
  · try replace hc1 := of_decide_eq_false hc1
    refine Run.skip ?_
    refine Run.seq ?_
    refine Run.ops ?_
    refine SOps.st rfl rfl (Yv.move rfl).yl ?_
    refine SOps.one rfl (One.callRow rfl callable16 (.cons rfl (.nil)) (fun w' hw' => toFixS_spec ((Rd.arg hs) w' hw') (by omega)) (fun A1 c1 => ?_))
    refine SOps.st rfl rfl (Yv.move rfl).yl ?_
    refine SOps.st rfl rfl (Yv.move rfl).yl ?_
    refine SOps.st rfl rfl (Yl.call callable37 (.cons rfl (.cons rfl (.cons rfl (.nil)))) (fun w' hw' => sPassingMinutes_spec ((Rd.row (i := 0) rfl) w' hw'))) ?_
    refine SOps.st rfl rfl (Yv.move rfl).yl ?_
    refine SOps.st rfl rfl (Yv.extract rfl rfl).yl ?_
    refine SOps.st rfl rfl (Yv.extract rfl rfl).yl ?_
    refine SOps.one rfl (One.alloc rfl zero54 (fun b1 => ?_))
    refine SOps.one rfl (One.store (i := 0) (off := 0) (vs := [_, _]) (cs' := [_, _]) (H' := [_, _]) lay54 rfl rfl rfl rfl rfl rfl rfl rfl rfl rfl ?_)
    refine SOps.st rfl rfl (Yv.assign rfl).yl ?_
    refine SOps.nil ?_
    refine Run.seq ?_
    refine Run.ops ?_
    refine SOps.st rfl rfl (Yv.move rfl).yl ?_
    refine SOps.one rfl (One.callRow rfl callable16 (.cons rfl (.nil)) (fun w' hw' => toFixS_spec ((Rd.arg hs) w' hw') (by omega)) (fun A2 c2 => ?_))
    refine SOps.st rfl rfl (Yv.assign rfl).yl ?_
    refine SOps.nil ?_
    refine Run.seq ?_
    refine Run.ops ?_
    refine SOps.st rfl rfl (Yv.move rfl).yl ?_
    refine SOps.st rfl rfl (Yv.move rfl).yl ?_
    refine SOps.st rfl rfl (Yv.move rfl).yl ?_
    refine SOps.st rfl rfl (Yl.call callable38 (.cons rfl (.cons rfl (.cons rfl (.nil)))) (fun w' hw' => PassingMinutes_spec ((Rd.row (i := 0) rfl) w' hw'))) ?_
    refine SOps.st rfl rfl (Yv.move rfl).yl ?_
    refine SOps.st rfl rfl (Yv.extract rfl rfl).yl ?_
    refine SOps.st rfl rfl (Yv.extract rfl rfl).yl ?_
    refine SOps.one rfl (One.alloc rfl zero54 (fun b2 => ?_))
    refine SOps.one rfl (One.store (i := 0) (off := 0) (vs := [_, _]) (cs' := [_, _]) (H' := [_, _, _, _]) lay54 rfl rfl rfl rfl rfl rfl rfl rfl rfl rfl ?_)
    refine SOps.st rfl rfl (Yv.assign rfl).yl ?_
    refine SOps.nil ?_
    refine Run.seq ?_
    refine Run.seq ?_
    refine Run.quiet (by intro h; cases h) ?_
    refine QOps.st rfl rfl (Yv.loadBs (i := 0) lay54 rfl rfl rfl rfl).yl ?_
    refine QOps.st rfl rfl (Yv.loadBs (i := 2) lay54 rfl rfl rfl rfl).yl ?_
    refine QOps.st rfl rfl (Yl.call callable39 (.cons rfl (.cons rfl (.nil))) (fun w' hw' => eqInterval_spec (f := ⟨_, _⟩))) ?_
    refine QOps.st rfl rfl (Yv.not rfl).yl ?_
    refine QOps.st rfl rfl (Yv.move rfl).yl ?_
    refine' QOps.or [_, _, _] _ (.tmp 42) rfl rfl rfl rfl rfl rfl (fun hg1 => ?_) ?_
    rotate_left
    · try replace hg1 := of_decide_eq_false hg1
      refine QOps.st rfl rfl (Yv.move rfl).yl ?_
      refine QOps.st rfl rfl (Yv.move rfl).yl ?_
      refine QOps.st rfl rfl (Yv.neB bool4 rfl rfl).yl ?_
      exact QOps.nil rfl
    refine QOps.nil ?_
    refine Run.cond rfl (fun hc2 => ?_) (fun hc2 => ?_)
    · exfalso
      simp at hc2
    · try replace hc2 := of_decide_eq_false hc2
      refine Run.skip ?_
      refine Run.seq ?_
      refine Run.seq ?_
      refine Run.ops ?_
      refine SOps.st rfl rfl (Yv.move rfl).yl ?_
      refine SOps.st rfl rfl (Yv.move rfl).yl ?_
      refine SOps.one rfl (One.callRow rfl callable16 (.cons rfl (.nil)) (fun w' hw' => toFixS_spec ((Rd.arg hs) w' hw') (by omega)) (fun A3 c3 => ?_))
      refine SOps.st rfl rfl (Yl.call callable18 (.cons rfl (.cons rfl (.nil))) (fun w' hw' => eqFixS_spec ((Rd.row (i := 2) rfl) w' hw') ((Rd.row (i := 0) rfl) w' hw'))) ?_
      refine SOps.st rfl rfl (Yv.not rfl).yl ?_
      refine SOps.nil ?_
      refine Run.cond rfl (fun hc3 => ?_) (fun hc3 => ?_)
      · exfalso
        simp at hc3
      · try replace hc3 := of_decide_eq_false hc3
        refine Run.skip ?_
        refine Run.seq ?_
        refine Run.quiet (by intro h; cases h) ?_
        refine QOps.st rfl rfl (Yv.assign rfl).yl ?_
        refine QOps.nil ?_
        refine Run.ret ?_
        refine retQ.of (.inr rfl) rfl (.tmp rfl .nil) (fun w' hw' => ?_)
        refine ⟨?_, hw'.bel.below⟩
        exact rfl

end Go.Proofs.Ytliealfihglkmaa
