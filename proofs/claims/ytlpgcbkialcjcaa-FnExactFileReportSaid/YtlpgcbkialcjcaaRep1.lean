/- Reports: the laws' own helper functions over them, and over numbers. Conditions: none. -/
import Derived.Test.YtlpgcbkialcjcaaTab
import Derived.Test.YtlpgcbkialcjcaaBase
namespace Go.Proofs.Ytlpgcbkialcjcaa
open Go.RowKit
set_option maxRecDepth 100000
/-- A number's cell. -/
def intC (n : Int) : List Value := [.int .i64 n]
theorem intC_len (n : Int) : (intC n).length = 1 := rfl

structure Report where
  vessel : Int
  number : Int
  kind : Int
  place : Int
  minute : Int
  cones : Int
instance : Inhabited Report := ⟨⟨0, 0, 0, 0, 0, 0⟩⟩
def Report.enc (f : Report) : List Value := [.int .i64 f.vessel, .int .i64 f.number, .int .i64 f.kind, .int .i64 f.place, .int .i64 f.minute, .int .i64 f.cones]
theorem Report.len (f : Report) : f.enc.length = 6 := rfl
theorem Report.one (f : Report) : f.enc.all Value.oneCell' = true := rfl

theorem toEReport_spec {w : World} {f : Report} : Calls Try.prog 12 #[.agg f.enc.toArray] w (RetB w (.agg f.enc.toArray)) := by
  refine calls_of_run (vs := [_]) (L := [(0, _)]) (n := 23) (F := []) (H := []) Try.func12 rfl rfl rfl rfl (HOk.start _) ?_
  refine Run.seq ?_
  refine Run.ops ?_
  refine SOps.one rfl (One.box (cs := [_, _, _, _, _, _]) rfl rfl rfl (fun b1 => ?_))
  refine SOps.one rfl (One.alloc rfl zero25 (fun b2 => ?_))
  refine SOps.nil ?_
  refine Run.seq ?_
  refine Run.ops ?_
  refine SOps.one rfl (One.alloc rfl zero25 (fun b3 => ?_))
  refine SOps.nil ?_
  refine Run.seq ?_
  refine Run.ops ?_
  refine SOps.st rfl rfl (Yv.fieldAddr fld23_0 rfl).yl ?_
  refine SOps.st rfl rfl (Yv.loadB (i := 2) lay3 rfl rfl rfl rfl).yl ?_
  refine SOps.st rfl rfl (Yv.fieldAddr fld25_0 rfl).yl ?_
  refine SOps.one rfl (One.store (i := 0) (off := 0) (vs := [_]) (cs' := [_, _, _, _, _, _]) (H' := [_, _, _]) lay3 rfl rfl rfl rfl rfl rfl rfl rfl rfl rfl ?_)
  refine SOps.nil ?_
  refine Run.seq ?_
  refine Run.ops ?_
  refine SOps.st rfl rfl (Yv.fieldAddr fld23_1 rfl).yl ?_
  refine SOps.st rfl rfl (Yv.loadB (i := 2) lay3 rfl rfl rfl rfl).yl ?_
  refine SOps.st rfl rfl (Yv.fieldAddr fld25_1 rfl).yl ?_
  refine SOps.one rfl (One.store (i := 0) (off := 1) (vs := [_]) (cs' := [_, _, _, _, _, _]) (H' := [_, _, _]) lay3 rfl rfl rfl rfl rfl rfl rfl rfl rfl rfl ?_)
  refine SOps.nil ?_
  refine Run.seq ?_
  refine Run.ops ?_
  refine SOps.st rfl rfl (Yv.fieldAddr fld23_2 rfl).yl ?_
  refine SOps.st rfl rfl (Yv.loadB (i := 2) lay3 rfl rfl rfl rfl).yl ?_
  refine SOps.st rfl rfl (Yv.fieldAddr fld25_2 rfl).yl ?_
  refine SOps.one rfl (One.store (i := 0) (off := 2) (vs := [_]) (cs' := [_, _, _, _, _, _]) (H' := [_, _, _]) lay3 rfl rfl rfl rfl rfl rfl rfl rfl rfl rfl ?_)
  refine SOps.nil ?_
  refine Run.seq ?_
  refine Run.ops ?_
  refine SOps.st rfl rfl (Yv.fieldAddr fld23_3 rfl).yl ?_
  refine SOps.st rfl rfl (Yv.loadB (i := 2) lay3 rfl rfl rfl rfl).yl ?_
  refine SOps.st rfl rfl (Yv.fieldAddr fld25_3 rfl).yl ?_
  refine SOps.one rfl (One.store (i := 0) (off := 3) (vs := [_]) (cs' := [_, _, _, _, _, _]) (H' := [_, _, _]) lay3 rfl rfl rfl rfl rfl rfl rfl rfl rfl rfl ?_)
  refine SOps.nil ?_
  refine Run.seq ?_
  refine Run.ops ?_
  refine SOps.st rfl rfl (Yv.fieldAddr fld23_4 rfl).yl ?_
  refine SOps.st rfl rfl (Yv.loadB (i := 2) lay3 rfl rfl rfl rfl).yl ?_
  refine SOps.st rfl rfl (Yv.fieldAddr fld25_4 rfl).yl ?_
  refine SOps.one rfl (One.store (i := 0) (off := 4) (vs := [_]) (cs' := [_, _, _, _, _, _]) (H' := [_, _, _]) lay3 rfl rfl rfl rfl rfl rfl rfl rfl rfl rfl ?_)
  refine SOps.nil ?_
  refine Run.seq ?_
  refine Run.ops ?_
  refine SOps.st rfl rfl (Yv.fieldAddr fld23_5 rfl).yl ?_
  refine SOps.st rfl rfl (Yv.loadB (i := 2) lay3 rfl rfl rfl rfl).yl ?_
  refine SOps.st rfl rfl (Yv.fieldAddr fld25_5 rfl).yl ?_
  refine SOps.one rfl (One.store (i := 0) (off := 5) (vs := [_]) (cs' := [_, _, _, _, _, _]) (H' := [_, _, _]) lay3 rfl rfl rfl rfl rfl rfl rfl rfl rfl rfl ?_)
  refine SOps.nil ?_
  refine Run.seq ?_
  refine Run.ops ?_
  refine SOps.st rfl rfl (Yv.loadBs (i := 0) lay25 rfl rfl rfl rfl).yl ?_
  refine SOps.one rfl (One.store (i := 1) (off := 0) (vs := [_, _, _, _, _, _]) (cs' := [_, _, _, _, _, _]) (H' := [_, _, _]) lay25 rfl rfl rfl rfl rfl rfl rfl rfl rfl rfl ?_)
  refine SOps.nil ?_
  refine Run.ret ?_
  refine retQ.of (.inr rfl) rfl (.cells (i := 1) rfl lay25 rfl rfl .nil) (fun w' hw' => ?_)
  refine ⟨?_, hw'.bel.below⟩
  exact rfl

theorem toEReportS_spec {w : World} {A : Option Addr} {c : Nat} {l : List Report} (hs : Sl w 6 A l.length c (l.flatMap Report.enc)) (hb : 48 * l.length ≤ 281474976710656) :
    Calls Try.prog 16 #[.slice A l.length c] w (RetRow w 25 6 l.length (l.flatMap Report.enc) (fun v => v)) := by
  refine calls_of_run (vs := [_]) (L := [(0, _)]) (n := 23) (F := []) (H := []) Try.func16 rfl rfl rfl rfl (HOk.start _) ?_
  refine Run.seq ?_
  refine Run.quiet (by intro h; cases h) ?_
  refine QOps.st rfl rfl (Yv.assign rfl).yl ?_
  refine QOps.nil ?_
  refine Run.seq ?_
  refine Run.ops ?_
  refine SOps.st rfl rfl (Yv.move rfl).yl ?_
  refine SOps.st rfl rfl (Yv.lenS el28s rfl).yl ?_
  refine SOps.one rfl (One.make (enc := Report.enc) (m := l.length) default rfl el31 zero25 rfl Report.len (by decide) rfl rfl (by omega) (by omega) (fun b1 => ?_))
  refine SOps.st rfl rfl (Yv.assign rfl).yl ?_
  refine SOps.nil ?_
  refine Run.seq ?_
  refine Run.seq ?_
  refine Run.quiet (by intro h; cases h) ?_
  refine QOps.st rfl rfl (Yv.assign rfl).yl ?_
  refine QOps.nil ?_
  refine Run.block ?_
  refine Run.loop (S := Nat × List Report) (fun s => match s with | (k, o) => k ≤ l.length ∧ o.length = l.length ∧ ∀ i, i < k → nth o i = nth l i) (fun s => match s with | (k, o) => [(0, .slice A l.length c), (3, .slice (some ⟨b1, 0, none⟩) l.length l.length), (4, .int .i64 (k : Int))]) (fun s => match s with | (k, o) => [.row (some ⟨b1, 0, none⟩) l.length 25 6 l.length (o.flatMap Report.enc)]) (fun s => match s with | (k, o) => l.length - k) (0, List.replicate l.length default) ?_ (SubE.cons rfl (SubE.cons rfl (SubE.cons rfl (SubE.nil _)))) (List.Sublist.refl _) ?_
  · exact ⟨by omega, by simp, fun i hi => by omega⟩
  · rintro ⟨k, o⟩ ⟨hk, hol, heq⟩
    show Run _ _ _ _ _ [(0, .slice A l.length c), (3, .slice (some ⟨b1, 0, none⟩) l.length l.length), (4, .int .i64 (k : Int))] [.row (some ⟨b1, 0, none⟩) l.length 25 6 l.length (o.flatMap Report.enc)] _
    refine Run.seq ?_
    refine Run.seq ?_
    refine Run.quiet (by intro h; cases h) ?_
    refine QOps.st rfl rfl (Yv.move rfl).yl ?_
    refine QOps.st rfl rfl (Yv.move rfl).yl ?_
    refine QOps.st rfl rfl (Yv.lenS el28s rfl).yl ?_
    refine QOps.st rfl rfl (Yv.lss rfl rfl).yl ?_
    refine QOps.nil ?_
    refine Run.cond rfl (fun hc1 => ?_) (fun hc1 => ?_)
    · try replace hc1 := of_decide_eq_true hc1
      refine Run.skip ?_
      refine Run.seq ?_
      refine Run.block ?_
      refine Run.ops ?_
      refine SOps.st rfl rfl (Yv.move rfl).yl ?_
      refine SOps.st rfl rfl (Yv.move rfl).yl ?_
      refine SOps.st rfl rfl (Yv.move rfl).yl ?_
      refine SOps.st rfl rfl (Yv.move rfl).yl ?_
      refine SOps.st rfl rfl (Yv.indexAddr k el28 rfl rfl rfl (Rd.arg hs) (by omega)).yl ?_
      refine SOps.st rfl rfl (Yv.loadEs lay23 rfl Report.len (Rd.arg hs) (by first | omega | (simp; omega)) (by decide)).yl ?_
      refine SOps.st rfl rfl (Yl.call callable12 (.cons rfl (.nil)) (fun w' hw' => toEReport_spec)) ?_
      refine SOps.st rfl rfl (Yv.indexAddr k el31 rfl rfl rfl (Rd.row (i := 0) rfl) (by omega)).yl ?_
      refine SOps.one rfl (One.storeE (i := 0) (k := k) (f := 0) (H' := [_]) (e := nth l k) lay25 rfl rfl rfl Report.len rfl (by decide) rfl rfl rfl hol (by omega) rfl ?_)
      refine SOps.nil ?_
      refine Run.quiet (by intro h; cases h) ?_
      refine QOps.st rfl rfl (Yv.move rfl).yl ?_
      refine QOps.st rfl rfl (Yv.succN rfl rfl (by omega)).yl ?_
      refine QOps.st rfl rfl (Yv.assign rfl).yl ?_
      refine QOps.nil ?_
      refine ⟨(k + 1, _), ?_, ?_, (SubE.cons rfl (SubE.cons rfl (SubE.cons rfl (SubE.nil _)))), (List.Sublist.refl _)⟩
      · exact ⟨by omega, by simpa using hol, all_succ (fun i hi => by rw [nth_set_ne (by omega)]; exact heq i hi) (nth_set_self (by omega))⟩
      · first | omega | (dsimp only; omega)
    · try replace hc1 := of_decide_eq_false hc1
      refine Run.exit ?_
      refine Run.seq ?_
      refine Run.quiet (by intro h; cases h) ?_
      refine QOps.st rfl rfl (Yv.move rfl).yl ?_
      refine QOps.st rfl rfl (Yv.assign rfl).yl ?_
      refine QOps.nil ?_
      refine Run.ret ?_
      obtain rfl : k = l.length := by omega
      obtain rfl := eq_of_nth hol heq
      refine retQ.of (.inr rfl) rfl (.tmp rfl .nil) (fun w' hw' => ?_)
      exact ⟨_, _, rfl, hw'.bel.below, hw'.ent _ (List.mem_of_getElem? (i := 0) rfl), fun g hg => (hw'.own _ (List.mem_of_getElem? (i := 0) rfl) g hg).elim id (by simp)⟩

theorem szEReportS_spec {w : World} {A : Option Addr} {c n : Nat} {left : Int} (hn : n ≤ 4611686018427387904) (h1 : 0 ≤ left) (h2 : left ≤ 4611686018427387904) :
    Calls Try.prog 14 #[.slice A n c, .int .i64 left] w (RetB w (.int .i64 (if left < (n : Int) then -1 else left - n))) := by
  refine calls_of_run (vs := [_, _]) (L := [(0, _), (1, _)]) (n := 12) (F := []) (H := []) Try.func14 rfl rfl rfl rfl (HOk.start _) ?_
  refine Run.seq ?_
  refine Run.quiet (by intro h; cases h) ?_
  refine QOps.st rfl rfl (Yv.assign rfl).yl ?_
  refine QOps.nil ?_
  refine Run.seq ?_
  refine Run.quiet (by intro h; cases h) ?_
  refine QOps.st rfl rfl (Yv.move rfl).yl ?_
  refine QOps.st rfl rfl (Yv.move rfl).yl ?_
  refine QOps.st rfl rfl (Yv.lenS el28s rfl).yl ?_
  refine QOps.st rfl rfl (Yv.sub rfl rfl (by omega)).yl ?_
  refine QOps.st rfl rfl (Yv.assign rfl).yl ?_
  refine QOps.nil ?_
  refine Run.seq ?_
  refine Run.seq ?_
  refine Run.quiet (by intro h; cases h) ?_
  refine QOps.st rfl rfl (Yv.move rfl).yl ?_
  refine QOps.st rfl rfl (Yv.lss rfl rfl).yl ?_
  refine QOps.nil ?_
  refine Run.cond rfl (fun hc1 => ?_) (fun hc1 => ?_)
  · try replace hc1 := of_decide_eq_true hc1
    refine Run.seq ?_
    refine Run.quiet (by intro h; cases h) ?_
    refine QOps.st rfl rfl (Yv.assign rfl).yl ?_
    refine QOps.nil ?_
    refine Run.ret ?_
    refine retQ.of (.inr rfl) rfl (.tmp rfl .nil) (fun w' hw' => ?_)
    refine ⟨?_, hw'.bel.below⟩
    refine retI_eq ?_
    rw [if_pos (by omega)]
  · try replace hc1 := of_decide_eq_false hc1
    refine Run.skip ?_
    refine Run.seq ?_
    refine Run.quiet (by intro h; cases h) ?_
    refine QOps.st rfl rfl (Yv.move rfl).yl ?_
    refine QOps.st rfl rfl (Yv.assign rfl).yl ?_
    refine QOps.nil ?_
    refine Run.ret ?_
    refine retQ.of (.inr rfl) rfl (.tmp rfl .nil) (fun w' hw' => ?_)
    refine ⟨?_, hw'.bel.below⟩
    refine retI_eq ?_
    rw [if_neg (by omega)]

theorem eqEReport_spec {w : World} {f : Report} : Calls Try.prog 21 #[.agg f.enc.toArray, .agg f.enc.toArray] w (RetB w (.bool true)) := by
  refine calls_of_run (vs := [_, _]) (L := [(0, _), (1, _)]) (n := 35) (F := []) (H := []) Try.func21 rfl rfl rfl rfl (HOk.start _) ?_
  refine Run.seq ?_
  refine Run.ops ?_
  refine SOps.one rfl (One.box (cs := [_, _, _, _, _, _]) rfl rfl rfl (fun b1 => ?_))
  refine SOps.one rfl (One.box (cs := [_, _, _, _, _, _]) rfl rfl rfl (fun b2 => ?_))
  refine SOps.st rfl rfl (Yv.assign rfl).yl ?_
  refine SOps.nil ?_
  refine Run.seq ?_
  refine Run.seq ?_
  refine Run.quiet (by intro h; cases h) ?_
  refine QOps.st rfl rfl (Yv.fieldAddr fld25_0 rfl).yl ?_
  refine QOps.st rfl rfl (Yv.loadB (i := 1) lay3 rfl rfl rfl rfl).yl ?_
  refine QOps.st rfl rfl (Yv.fieldAddr fld25_0 rfl).yl ?_
  refine QOps.st rfl rfl (Yv.loadB (i := 0) lay3 rfl rfl rfl rfl).yl ?_
  refine QOps.st rfl rfl (Yv.neI rfl rfl).yl ?_
  refine QOps.nil ?_
  refine Run.cond rfl (fun hc1 => ?_) (fun hc1 => ?_)
  · exfalso
    simp at hc1
  · try replace hc1 := of_decide_eq_false hc1
    refine Run.skip ?_
    refine Run.seq ?_
    refine Run.seq ?_
    refine Run.quiet (by intro h; cases h) ?_
    refine QOps.st rfl rfl (Yv.fieldAddr fld25_1 rfl).yl ?_
    refine QOps.st rfl rfl (Yv.loadB (i := 1) lay3 rfl rfl rfl rfl).yl ?_
    refine QOps.st rfl rfl (Yv.fieldAddr fld25_1 rfl).yl ?_
    refine QOps.st rfl rfl (Yv.loadB (i := 0) lay3 rfl rfl rfl rfl).yl ?_
    refine QOps.st rfl rfl (Yv.neI rfl rfl).yl ?_
    refine QOps.nil ?_
    refine Run.cond rfl (fun hc2 => ?_) (fun hc2 => ?_)
    · exfalso
      simp at hc2
    · try replace hc2 := of_decide_eq_false hc2
      refine Run.skip ?_
      refine Run.seq ?_
      refine Run.seq ?_
      refine Run.quiet (by intro h; cases h) ?_
      refine QOps.st rfl rfl (Yv.fieldAddr fld25_2 rfl).yl ?_
      refine QOps.st rfl rfl (Yv.loadB (i := 1) lay3 rfl rfl rfl rfl).yl ?_
      refine QOps.st rfl rfl (Yv.fieldAddr fld25_2 rfl).yl ?_
      refine QOps.st rfl rfl (Yv.loadB (i := 0) lay3 rfl rfl rfl rfl).yl ?_
      refine QOps.st rfl rfl (Yv.neI rfl rfl).yl ?_
      refine QOps.nil ?_
      refine Run.cond rfl (fun hc3 => ?_) (fun hc3 => ?_)
      · exfalso
        simp at hc3
      · try replace hc3 := of_decide_eq_false hc3
        refine Run.skip ?_
        refine Run.seq ?_
        refine Run.seq ?_
        refine Run.quiet (by intro h; cases h) ?_
        refine QOps.st rfl rfl (Yv.fieldAddr fld25_3 rfl).yl ?_
        refine QOps.st rfl rfl (Yv.loadB (i := 1) lay3 rfl rfl rfl rfl).yl ?_
        refine QOps.st rfl rfl (Yv.fieldAddr fld25_3 rfl).yl ?_
        refine QOps.st rfl rfl (Yv.loadB (i := 0) lay3 rfl rfl rfl rfl).yl ?_
        refine QOps.st rfl rfl (Yv.neI rfl rfl).yl ?_
        refine QOps.nil ?_
        refine Run.cond rfl (fun hc4 => ?_) (fun hc4 => ?_)
        · exfalso
          simp at hc4
        · try replace hc4 := of_decide_eq_false hc4
          refine Run.skip ?_
          refine Run.seq ?_
          refine Run.seq ?_
          refine Run.quiet (by intro h; cases h) ?_
          refine QOps.st rfl rfl (Yv.fieldAddr fld25_4 rfl).yl ?_
          refine QOps.st rfl rfl (Yv.loadB (i := 1) lay3 rfl rfl rfl rfl).yl ?_
          refine QOps.st rfl rfl (Yv.fieldAddr fld25_4 rfl).yl ?_
          refine QOps.st rfl rfl (Yv.loadB (i := 0) lay3 rfl rfl rfl rfl).yl ?_
          refine QOps.st rfl rfl (Yv.neI rfl rfl).yl ?_
          refine QOps.nil ?_
          refine Run.cond rfl (fun hc5 => ?_) (fun hc5 => ?_)
          · exfalso
            simp at hc5
          · try replace hc5 := of_decide_eq_false hc5
            refine Run.skip ?_
            refine Run.seq ?_
            refine Run.seq ?_
            refine Run.quiet (by intro h; cases h) ?_
            refine QOps.st rfl rfl (Yv.fieldAddr fld25_5 rfl).yl ?_
            refine QOps.st rfl rfl (Yv.loadB (i := 1) lay3 rfl rfl rfl rfl).yl ?_
            refine QOps.st rfl rfl (Yv.fieldAddr fld25_5 rfl).yl ?_
            refine QOps.st rfl rfl (Yv.loadB (i := 0) lay3 rfl rfl rfl rfl).yl ?_
            refine QOps.st rfl rfl (Yv.neI rfl rfl).yl ?_
            refine QOps.nil ?_
            refine Run.cond rfl (fun hc6 => ?_) (fun hc6 => ?_)
            · exfalso
              simp at hc6
            · try replace hc6 := of_decide_eq_false hc6
              refine Run.skip ?_
              refine Run.seq ?_
              refine Run.quiet (by intro h; cases h) ?_
              refine QOps.st rfl rfl (Yv.assign rfl).yl ?_
              refine QOps.nil ?_
              refine Run.ret ?_
              refine retQ.of (.inr rfl) rfl (.tmp rfl .nil) (fun w' hw' => ?_)
              refine ⟨?_, hw'.bel.below⟩
              exact rfl

theorem eqEReportS_spec {w : World} {A A2 : Option Addr} {c c2 : Nat} {l : List Report} (hs : Sl w 6 A l.length c (l.flatMap Report.enc)) (hs2 : Sl w 6 A2 l.length c2 (l.flatMap Report.enc)) :
    Calls Try.prog 18 #[.slice A l.length c, .slice A2 l.length c2] w (RetB w (.bool true)) := by
  have hmx := Sl.lenle hs
  refine calls_of_run (vs := [_, _]) (L := [(0, _), (1, _)]) (n := 27) (F := []) (H := []) Try.func18 rfl rfl rfl rfl (HOk.start _) ?_
  refine Run.seq ?_
  refine Run.quiet (by intro h; cases h) ?_
  refine QOps.st rfl rfl (Yv.assign rfl).yl ?_
  refine QOps.nil ?_
  refine Run.seq ?_
  refine Run.seq ?_
  refine Run.quiet (by intro h; cases h) ?_
  refine QOps.st rfl rfl (Yv.move rfl).yl ?_
  refine QOps.st rfl rfl (Yv.lenS el31s rfl).yl ?_
  refine QOps.st rfl rfl (Yv.move rfl).yl ?_
  refine QOps.st rfl rfl (Yv.lenS el31s rfl).yl ?_
  refine QOps.st rfl rfl (Yv.neI rfl rfl).yl ?_
  refine QOps.nil ?_
  refine Run.cond rfl (fun hc1 => ?_) (fun hc1 => ?_)
  · exfalso
    simp at hc1
  · try replace hc1 := of_decide_eq_false hc1
    refine Run.skip ?_
    refine Run.seq ?_
    refine Run.seq ?_
    refine Run.quiet (by intro h; cases h) ?_
    refine QOps.st rfl rfl (Yv.assign rfl).yl ?_
    refine QOps.nil ?_
    refine Run.block ?_
    refine Run.loop (S := Nat) (fun s => match s with | k => k ≤ l.length) (fun s => match s with | k => [(0, .slice A l.length c), (1, .slice A2 l.length c2), (5, .int .i64 (k : Int))]) (fun s => match s with | k => []) (fun s => match s with | k => l.length - k) 0 ?_ (SubE.cons rfl (SubE.cons rfl (SubE.cons rfl (SubE.nil _)))) (List.Sublist.refl _) ?_
    · exact Nat.zero_le _
    · rintro k hk
      show Run _ _ _ _ _ [(0, .slice A l.length c), (1, .slice A2 l.length c2), (5, .int .i64 (k : Int))] [] _
      refine Run.seq ?_
      refine Run.seq ?_
      refine Run.quiet (by intro h; cases h) ?_
      refine QOps.st rfl rfl (Yv.move rfl).yl ?_
      refine QOps.st rfl rfl (Yv.move rfl).yl ?_
      refine QOps.st rfl rfl (Yv.lenS el31s rfl).yl ?_
      refine QOps.st rfl rfl (Yv.lss rfl rfl).yl ?_
      refine QOps.nil ?_
      refine Run.cond rfl (fun hc2 => ?_) (fun hc2 => ?_)
      · try replace hc2 := of_decide_eq_true hc2
        refine Run.skip ?_
        refine Run.seq ?_
        refine Run.block ?_
        refine Run.seq ?_
        refine Run.quiet (fun _ => ⟨by kernel_rfl, by kernel_rfl⟩) ?_
        refine QOps.st rfl rfl (Yv.move rfl).yl ?_
        refine QOps.st rfl rfl (Yv.move rfl).yl ?_
        refine QOps.st rfl rfl (Yv.indexAddr k el31 rfl rfl rfl (Rd.arg hs) (by omega)).yl ?_
        refine QOps.st rfl rfl (Yv.loadEs lay25 rfl Report.len (Rd.arg hs) (by first | omega | (simp; omega)) (by decide)).yl ?_
        refine QOps.st rfl rfl (Yv.move rfl).yl ?_
        refine QOps.st rfl rfl (Yv.move rfl).yl ?_
        refine QOps.st rfl rfl (Yv.indexAddr k el31 rfl rfl rfl (Rd.arg hs2) (by omega)).yl ?_
        refine QOps.st rfl rfl (Yv.loadEs lay25 rfl Report.len (Rd.arg hs2) (by first | omega | (simp; omega)) (by decide)).yl ?_
        refine QOps.st rfl rfl (Yl.call callable21 (.cons rfl (.cons rfl (.nil))) (fun w' hw' => eqEReport_spec)) ?_
        refine QOps.st rfl rfl (Yv.not rfl).yl ?_
        refine QOps.nil ?_
        refine Run.cond rfl (fun hc3 => ?_) (fun hc3 => ?_)
        · exfalso
          simp at hc3
        · try replace hc3 := of_decide_eq_false hc3
          refine Run.skip ?_
          refine Run.quiet (by intro h; cases h) ?_
          refine QOps.st rfl rfl (Yv.move rfl).yl ?_
          refine QOps.st rfl rfl (Yv.succN rfl rfl (by omega)).yl ?_
          refine QOps.st rfl rfl (Yv.assign rfl).yl ?_
          refine QOps.nil ?_
          refine ⟨k + 1, ?_, ?_, (SubE.cons rfl (SubE.cons rfl (SubE.cons rfl (SubE.nil _)))), (List.Sublist.refl _)⟩
          · show k + 1 ≤ _; omega
          · first | omega | (dsimp only; omega)
      · try replace hc2 := of_decide_eq_false hc2
        refine Run.exit ?_
        refine Run.seq ?_
        refine Run.quiet (by intro h; cases h) ?_
        refine QOps.st rfl rfl (Yv.assign rfl).yl ?_
        refine QOps.nil ?_
        refine Run.ret ?_
        refine retQ.of (.inr rfl) rfl (.tmp rfl .nil) (fun w' hw' => ?_)
        refine ⟨?_, hw'.bel.below⟩
        exact rfl

/-- The marks that a row is given: the numbers from j on. -/
def Report.mark (j : Int) (i : Nat) : Report := ⟨j + 6 * (i : Int), j + 6 * (i : Int) + 1, j + 6 * (i : Int) + 2, j + 6 * (i : Int) + 3, j + 6 * (i : Int) + 4, j + 6 * (i : Int) + 5⟩
def Report.marks (m : Nat) (j : Int) : List Report := (List.range m).map (Report.mark j)
theorem Report.marks_len (m : Nat) (j : Int) : (Report.marks m j).length = m := by simp [Report.marks]
theorem Report.marks_nth {m : Nat} {j : Int} {i : Nat} (h : i < m) : nth (Report.marks m j) i = Report.mark j i := by simp [nth, Report.marks, h]

theorem markEReportS_spec {w : World} {A : Option Addr} {c T : Nat} {l : List Report} {j0 : Int} (hrow : (HEnt.row A c T 6 l.length (l.flatMap Report.enc)).ok w) (hl : l.length ≤ 1048576) (h1 : 0 ≤ j0) (h2 : j0 ≤ 4611686018427387904) :
    Calls Try.prog 25 #[.slice A l.length c, .int .i64 j0] w (RetMut w A c T 6 l.length ((Report.marks l.length j0).flatMap Report.enc) (.int .i64 (j0 + 6 * (l.length : Int)))) := by
  refine calls_of_run (vs := [_, _]) (L := [(0, _), (1, _)]) (n := 55) (F := (A.map (·.block)).toList) (H := [_]) Try.func25 rfl rfl rfl rfl (HOk.borrowRow hrow) ?_
  refine Run.seq ?_
  refine Run.quiet (by intro h; cases h) ?_
  refine QOps.st rfl rfl (Yv.assign rfl).yl ?_
  refine QOps.nil ?_
  refine Run.seq ?_
  refine Run.seq ?_
  refine Run.quiet (by intro h; cases h) ?_
  refine QOps.st rfl rfl (Yv.assign rfl).yl ?_
  refine QOps.nil ?_
  refine Run.block ?_
  refine Run.loop (S := Nat × Int × List Report) (fun s => match s with | (k, j, o) => k ≤ l.length ∧ o.length = l.length ∧ j = j0 + 6 * (k : Int) ∧ ∀ i, i < k → nth o i = Report.mark j0 i) (fun s => match s with | (k, j, o) => [(0, .slice A l.length c), (1, .int .i64 j), (5, .int .i64 (k : Int))]) (fun s => match s with | (k, j, o) => [.row A c T 6 l.length (o.flatMap Report.enc)]) (fun s => match s with | (k, j, o) => l.length - k) (0, j0, l) ?_ (SubE.cons rfl (SubE.cons rfl (SubE.cons rfl (SubE.nil _)))) (List.Sublist.refl _) ?_
  · exact ⟨by omega, rfl, by simp, fun i hi => by omega⟩
  · rintro ⟨k, j, o⟩ ⟨hk, hol, hj, heq⟩
    show Run _ _ _ _ _ [(0, .slice A l.length c), (1, .int .i64 j), (5, .int .i64 (k : Int))] [.row A c T 6 l.length (o.flatMap Report.enc)] _
    refine Run.seq ?_
    refine Run.seq ?_
    refine Run.quiet (by intro h; cases h) ?_
    refine QOps.st rfl rfl (Yv.move rfl).yl ?_
    refine QOps.st rfl rfl (Yv.move rfl).yl ?_
    refine QOps.st rfl rfl (Yv.lenS el31s rfl).yl ?_
    refine QOps.st rfl rfl (Yv.lss rfl rfl).yl ?_
    refine QOps.nil ?_
    refine Run.cond rfl (fun hc1 => ?_) (fun hc1 => ?_)
    · try replace hc1 := of_decide_eq_true hc1
      refine Run.skip ?_
      refine Run.seq ?_
      refine Run.block ?_
      refine Run.seq ?_
      refine Run.ops ?_
      refine SOps.st rfl rfl (Yv.move rfl).yl ?_
      refine SOps.st rfl rfl (Yv.move rfl).yl ?_
      refine SOps.st rfl rfl (Yv.move rfl).yl ?_
      refine SOps.st rfl rfl (Yv.indexAddr k el31 rfl rfl rfl (Rd.row (i := 0) rfl) (by omega)).yl ?_
      refine SOps.st rfl rfl (Yv.fieldAddr fld25_0 rfl).yl ?_
      refine SOps.one rfl (One.storeE (i := 0) (k := k) (f := 0) (H' := [_]) (e := ⟨j, (nth o k).number, (nth o k).kind, (nth o k).place, (nth o k).minute, (nth o k).cones⟩) lay3 rfl rfl rfl Report.len rfl (by decide) rfl rfl rfl (by first | omega | (simp; omega)) (by first | omega | (simp; omega)) rfl ?_)
      refine SOps.nil ?_
      refine Run.seq ?_
      refine Run.quiet (by intro h; cases h) ?_
      refine QOps.st rfl rfl (Yv.move rfl).yl ?_
      refine QOps.st rfl rfl (Yv.add rfl rfl (by omega)).yl ?_
      refine QOps.st rfl rfl (Yv.assign rfl).yl ?_
      refine QOps.nil ?_
      refine Run.seq ?_
      refine Run.ops ?_
      refine SOps.st rfl rfl (Yv.move rfl).yl ?_
      refine SOps.st rfl rfl (Yv.move rfl).yl ?_
      refine SOps.st rfl rfl (Yv.move rfl).yl ?_
      refine SOps.st rfl rfl (Yv.indexAddr k el31 rfl rfl rfl (Rd.row (i := 0) rfl) (by omega)).yl ?_
      refine SOps.st rfl rfl (Yv.fieldAddr fld25_1 rfl).yl ?_
      refine SOps.one rfl (One.storeE (i := 0) (k := k) (f := 1) (H' := [_]) (e := ⟨j, j + 1, (nth o k).kind, (nth o k).place, (nth o k).minute, (nth o k).cones⟩) lay3 rfl rfl rfl Report.len rfl (by decide) (by rw [nth_set_self (by first | omega | (simp; omega))]; rfl) rfl rfl (by first | omega | (simp; omega)) (by first | omega | (simp; omega)) rfl ?_)
      refine SOps.nil ?_
      refine Run.seq ?_
      refine Run.quiet (by intro h; cases h) ?_
      refine QOps.st rfl rfl (Yv.move rfl).yl ?_
      refine QOps.st rfl rfl (Yv.add rfl rfl (by omega)).yl ?_
      refine QOps.st rfl rfl (Yv.assign rfl).yl ?_
      refine QOps.nil ?_
      refine Run.seq ?_
      refine Run.ops ?_
      refine SOps.st rfl rfl (Yv.move rfl).yl ?_
      refine SOps.st rfl rfl (Yv.move rfl).yl ?_
      refine SOps.st rfl rfl (Yv.move rfl).yl ?_
      refine SOps.st rfl rfl (Yv.indexAddr k el31 rfl rfl rfl (Rd.row (i := 0) rfl) (by omega)).yl ?_
      refine SOps.st rfl rfl (Yv.fieldAddr fld25_2 rfl).yl ?_
      refine SOps.one rfl (One.storeE (i := 0) (k := k) (f := 2) (H' := [_]) (e := ⟨j, j + 1, j + 1 + 1, (nth o k).place, (nth o k).minute, (nth o k).cones⟩) lay3 rfl rfl rfl Report.len rfl (by decide) (by rw [nth_set_self (by first | omega | (simp; omega))]; rfl) rfl rfl (by first | omega | (simp; omega)) (by first | omega | (simp; omega)) rfl ?_)
      refine SOps.nil ?_
      refine Run.seq ?_
      refine Run.quiet (by intro h; cases h) ?_
      refine QOps.st rfl rfl (Yv.move rfl).yl ?_
      refine QOps.st rfl rfl (Yv.add rfl rfl (by omega)).yl ?_
      refine QOps.st rfl rfl (Yv.assign rfl).yl ?_
      refine QOps.nil ?_
      refine Run.seq ?_
      refine Run.ops ?_
      refine SOps.st rfl rfl (Yv.move rfl).yl ?_
      refine SOps.st rfl rfl (Yv.move rfl).yl ?_
      refine SOps.st rfl rfl (Yv.move rfl).yl ?_
      refine SOps.st rfl rfl (Yv.indexAddr k el31 rfl rfl rfl (Rd.row (i := 0) rfl) (by omega)).yl ?_
      refine SOps.st rfl rfl (Yv.fieldAddr fld25_3 rfl).yl ?_
      refine SOps.one rfl (One.storeE (i := 0) (k := k) (f := 3) (H' := [_]) (e := ⟨j, j + 1, j + 1 + 1, j + 1 + 1 + 1, (nth o k).minute, (nth o k).cones⟩) lay3 rfl rfl rfl Report.len rfl (by decide) (by rw [nth_set_self (by first | omega | (simp; omega))]; rfl) rfl rfl (by first | omega | (simp; omega)) (by first | omega | (simp; omega)) rfl ?_)
      refine SOps.nil ?_
      refine Run.seq ?_
      refine Run.quiet (by intro h; cases h) ?_
      refine QOps.st rfl rfl (Yv.move rfl).yl ?_
      refine QOps.st rfl rfl (Yv.add rfl rfl (by omega)).yl ?_
      refine QOps.st rfl rfl (Yv.assign rfl).yl ?_
      refine QOps.nil ?_
      refine Run.seq ?_
      refine Run.ops ?_
      refine SOps.st rfl rfl (Yv.move rfl).yl ?_
      refine SOps.st rfl rfl (Yv.move rfl).yl ?_
      refine SOps.st rfl rfl (Yv.move rfl).yl ?_
      refine SOps.st rfl rfl (Yv.indexAddr k el31 rfl rfl rfl (Rd.row (i := 0) rfl) (by omega)).yl ?_
      refine SOps.st rfl rfl (Yv.fieldAddr fld25_4 rfl).yl ?_
      refine SOps.one rfl (One.storeE (i := 0) (k := k) (f := 4) (H' := [_]) (e := ⟨j, j + 1, j + 1 + 1, j + 1 + 1 + 1, j + 1 + 1 + 1 + 1, (nth o k).cones⟩) lay3 rfl rfl rfl Report.len rfl (by decide) (by rw [nth_set_self (by first | omega | (simp; omega))]; rfl) rfl rfl (by first | omega | (simp; omega)) (by first | omega | (simp; omega)) rfl ?_)
      refine SOps.nil ?_
      refine Run.seq ?_
      refine Run.quiet (by intro h; cases h) ?_
      refine QOps.st rfl rfl (Yv.move rfl).yl ?_
      refine QOps.st rfl rfl (Yv.add rfl rfl (by omega)).yl ?_
      refine QOps.st rfl rfl (Yv.assign rfl).yl ?_
      refine QOps.nil ?_
      refine Run.seq ?_
      refine Run.ops ?_
      refine SOps.st rfl rfl (Yv.move rfl).yl ?_
      refine SOps.st rfl rfl (Yv.move rfl).yl ?_
      refine SOps.st rfl rfl (Yv.move rfl).yl ?_
      refine SOps.st rfl rfl (Yv.indexAddr k el31 rfl rfl rfl (Rd.row (i := 0) rfl) (by omega)).yl ?_
      refine SOps.st rfl rfl (Yv.fieldAddr fld25_5 rfl).yl ?_
      refine SOps.one rfl (One.storeE (i := 0) (k := k) (f := 5) (H' := [_]) (e := ⟨j, j + 1, j + 1 + 1, j + 1 + 1 + 1, j + 1 + 1 + 1 + 1, j + 1 + 1 + 1 + 1 + 1⟩) lay3 rfl rfl rfl Report.len rfl (by decide) (by rw [nth_set_self (by first | omega | (simp; omega))]; rfl) rfl rfl (by first | omega | (simp; omega)) (by first | omega | (simp; omega)) rfl ?_)
      refine SOps.nil ?_
      refine Run.quiet (by intro h; cases h) ?_
      refine QOps.st rfl rfl (Yv.move rfl).yl ?_
      refine QOps.st rfl rfl (Yv.add rfl rfl (by omega)).yl ?_
      refine QOps.st rfl rfl (Yv.assign rfl).yl ?_
      refine QOps.nil ?_
      refine Run.quiet (by intro h; cases h) ?_
      refine QOps.st rfl rfl (Yv.move rfl).yl ?_
      refine QOps.st rfl rfl (Yv.succN rfl rfl (by omega)).yl ?_
      refine QOps.st rfl rfl (Yv.assign rfl).yl ?_
      refine QOps.nil ?_
      refine ⟨(k + 1, _, _), ?_, ?_, (SubE.cons rfl (SubE.cons rfl (SubE.cons rfl (SubE.nil _)))), (List.Sublist.refl _)⟩
      · exact ⟨by omega, by simpa using hol, by omega, all_succ (fun i hi => by simp only [List.set_set]; rw [nth_set_ne (by omega)]; exact heq i hi) (by simp only [List.set_set]; rw [nth_set_self (by omega), hj]; simp [Report.mark]; omega)⟩
      · first | omega | (dsimp only; omega)
    · try replace hc1 := of_decide_eq_false hc1
      refine Run.exit ?_
      refine Run.seq ?_
      refine Run.quiet (by intro h; cases h) ?_
      refine QOps.st rfl rfl (Yv.move rfl).yl ?_
      refine QOps.st rfl rfl (Yv.assign rfl).yl ?_
      refine QOps.nil ?_
      refine Run.ret ?_
      obtain rfl : k = l.length := by omega
      have hoe : o = Report.marks l.length j0 := eq_of_nth (by rw [hol, Report.marks_len]) (fun i hi => by rw [Report.marks_len] at hi; rw [Report.marks_nth hi]; exact heq i hi)
      subst hoe
      refine retQ.of (.inr rfl) rfl (.tmp rfl .nil) (fun w' hw' => ?_)
      exact ⟨by rw [hj]; rfl, hw'.bel, hw'.ent _ (List.mem_of_getElem? (i := 0) rfl)⟩

theorem heldEReportS_spec {w : World} {A : Option Addr} {c m : Nat} {j0 : Int} (hs : Sl w 6 A m c ((Report.marks m j0).flatMap Report.enc)) (hl : m ≤ 1048576) (h1 : 0 ≤ j0) (h2 : j0 ≤ 4611686018427387904) :
    Calls Try.prog 30 #[.slice A m c, .int .i64 j0] w (RetB w (.int .i64 (j0 + 6 * (m : Int)))) := by
  have hml := Report.marks_len m j0
  refine calls_of_run (vs := [_, _]) (L := [(0, _), (1, _)]) (n := 67) (F := []) (H := []) Try.func30 rfl rfl rfl rfl (HOk.start _) ?_
  refine Run.seq ?_
  refine Run.quiet (by intro h; cases h) ?_
  refine QOps.st rfl rfl (Yv.assign rfl).yl ?_
  refine QOps.nil ?_
  refine Run.seq ?_
  refine Run.seq ?_
  refine Run.quiet (by intro h; cases h) ?_
  refine QOps.st rfl rfl (Yv.assign rfl).yl ?_
  refine QOps.nil ?_
  refine Run.block ?_
  refine Run.loop (S := Nat × Int) (fun s => match s with | (k, j) => k ≤ m ∧ j = j0 + 6 * (k : Int)) (fun s => match s with | (k, j) => [(0, .slice A m c), (1, .int .i64 j), (5, .int .i64 (k : Int))]) (fun s => match s with | (k, j) => []) (fun s => match s with | (k, j) => m - k) (0, j0) ?_ (SubE.cons rfl (SubE.cons rfl (SubE.cons rfl (SubE.nil _)))) (List.Sublist.refl _) ?_
  · exact ⟨by omega, by simp⟩
  · rintro ⟨k, j⟩ ⟨hk, hj⟩
    show Run _ _ _ _ _ [(0, .slice A m c), (1, .int .i64 j), (5, .int .i64 (k : Int))] [] _
    refine Run.seq ?_
    refine Run.seq ?_
    refine Run.quiet (by intro h; cases h) ?_
    refine QOps.st rfl rfl (Yv.move rfl).yl ?_
    refine QOps.st rfl rfl (Yv.move rfl).yl ?_
    refine QOps.st rfl rfl (Yv.lenS el31s rfl).yl ?_
    refine QOps.st rfl rfl (Yv.lss rfl rfl).yl ?_
    refine QOps.nil ?_
    refine Run.cond rfl (fun hc1 => ?_) (fun hc1 => ?_)
    · try replace hc1 := of_decide_eq_true hc1
      refine Run.skip ?_
      refine Run.seq ?_
      refine Run.block ?_
      refine Run.seq ?_
      refine Run.seq ?_
      refine Run.quiet (by intro h; cases h) ?_
      refine QOps.st rfl rfl (Yv.move rfl).yl ?_
      refine QOps.st rfl rfl (Yv.move rfl).yl ?_
      refine QOps.st rfl rfl (Yv.indexAddr k el31 rfl rfl rfl (Rd.arg hs) (by omega)).yl ?_
      refine QOps.st rfl rfl (Yv.fieldAddr fld25_0 rfl).yl ?_
      refine QOps.st rfl rfl (Yv.loadF lay3 rfl Report.len (Rd.arg hs) (by omega) (by decide) rfl).yl ?_
      refine QOps.st rfl rfl (Yv.move rfl).yl ?_
      refine QOps.st rfl rfl (Yv.neI rfl rfl).yl ?_
      refine QOps.nil ?_
      refine Run.cond rfl (fun hc2 => ?_) (fun hc2 => ?_)
      · exfalso
        simp [Report.marks_nth (show k < m by omega), Report.mark] at hc2; try omega
      · try replace hc2 := of_decide_eq_false hc2
        refine Run.skip ?_
        refine Run.seq ?_
        refine Run.quiet (by intro h; cases h) ?_
        refine QOps.st rfl rfl (Yv.move rfl).yl ?_
        refine QOps.st rfl rfl (Yv.add rfl rfl (by omega)).yl ?_
        refine QOps.st rfl rfl (Yv.assign rfl).yl ?_
        refine QOps.nil ?_
        refine Run.seq ?_
        refine Run.seq ?_
        refine Run.quiet (by intro h; cases h) ?_
        refine QOps.st rfl rfl (Yv.move rfl).yl ?_
        refine QOps.st rfl rfl (Yv.move rfl).yl ?_
        refine QOps.st rfl rfl (Yv.indexAddr k el31 rfl rfl rfl (Rd.arg hs) (by omega)).yl ?_
        refine QOps.st rfl rfl (Yv.fieldAddr fld25_1 rfl).yl ?_
        refine QOps.st rfl rfl (Yv.loadF lay3 rfl Report.len (Rd.arg hs) (by omega) (by decide) rfl).yl ?_
        refine QOps.st rfl rfl (Yv.move rfl).yl ?_
        refine QOps.st rfl rfl (Yv.neI rfl rfl).yl ?_
        refine QOps.nil ?_
        refine Run.cond rfl (fun hc3 => ?_) (fun hc3 => ?_)
        · exfalso
          simp [Report.marks_nth (show k < m by omega), Report.mark] at hc3; try omega
        · try replace hc3 := of_decide_eq_false hc3
          refine Run.skip ?_
          refine Run.seq ?_
          refine Run.quiet (by intro h; cases h) ?_
          refine QOps.st rfl rfl (Yv.move rfl).yl ?_
          refine QOps.st rfl rfl (Yv.add rfl rfl (by omega)).yl ?_
          refine QOps.st rfl rfl (Yv.assign rfl).yl ?_
          refine QOps.nil ?_
          refine Run.seq ?_
          refine Run.seq ?_
          refine Run.quiet (by intro h; cases h) ?_
          refine QOps.st rfl rfl (Yv.move rfl).yl ?_
          refine QOps.st rfl rfl (Yv.move rfl).yl ?_
          refine QOps.st rfl rfl (Yv.indexAddr k el31 rfl rfl rfl (Rd.arg hs) (by omega)).yl ?_
          refine QOps.st rfl rfl (Yv.fieldAddr fld25_2 rfl).yl ?_
          refine QOps.st rfl rfl (Yv.loadF lay3 rfl Report.len (Rd.arg hs) (by omega) (by decide) rfl).yl ?_
          refine QOps.st rfl rfl (Yv.move rfl).yl ?_
          refine QOps.st rfl rfl (Yv.neI rfl rfl).yl ?_
          refine QOps.nil ?_
          refine Run.cond rfl (fun hc4 => ?_) (fun hc4 => ?_)
          · exfalso
            simp [Report.marks_nth (show k < m by omega), Report.mark] at hc4; try omega
          · try replace hc4 := of_decide_eq_false hc4
            refine Run.skip ?_
            refine Run.seq ?_
            refine Run.quiet (by intro h; cases h) ?_
            refine QOps.st rfl rfl (Yv.move rfl).yl ?_
            refine QOps.st rfl rfl (Yv.add rfl rfl (by omega)).yl ?_
            refine QOps.st rfl rfl (Yv.assign rfl).yl ?_
            refine QOps.nil ?_
            refine Run.seq ?_
            refine Run.seq ?_
            refine Run.quiet (by intro h; cases h) ?_
            refine QOps.st rfl rfl (Yv.move rfl).yl ?_
            refine QOps.st rfl rfl (Yv.move rfl).yl ?_
            refine QOps.st rfl rfl (Yv.indexAddr k el31 rfl rfl rfl (Rd.arg hs) (by omega)).yl ?_
            refine QOps.st rfl rfl (Yv.fieldAddr fld25_3 rfl).yl ?_
            refine QOps.st rfl rfl (Yv.loadF lay3 rfl Report.len (Rd.arg hs) (by omega) (by decide) rfl).yl ?_
            refine QOps.st rfl rfl (Yv.move rfl).yl ?_
            refine QOps.st rfl rfl (Yv.neI rfl rfl).yl ?_
            refine QOps.nil ?_
            refine Run.cond rfl (fun hc5 => ?_) (fun hc5 => ?_)
            · exfalso
              simp [Report.marks_nth (show k < m by omega), Report.mark] at hc5; try omega
            · try replace hc5 := of_decide_eq_false hc5
              refine Run.skip ?_
              refine Run.seq ?_
              refine Run.quiet (by intro h; cases h) ?_
              refine QOps.st rfl rfl (Yv.move rfl).yl ?_
              refine QOps.st rfl rfl (Yv.add rfl rfl (by omega)).yl ?_
              refine QOps.st rfl rfl (Yv.assign rfl).yl ?_
              refine QOps.nil ?_
              refine Run.seq ?_
              refine Run.seq ?_
              refine Run.quiet (by intro h; cases h) ?_
              refine QOps.st rfl rfl (Yv.move rfl).yl ?_
              refine QOps.st rfl rfl (Yv.move rfl).yl ?_
              refine QOps.st rfl rfl (Yv.indexAddr k el31 rfl rfl rfl (Rd.arg hs) (by omega)).yl ?_
              refine QOps.st rfl rfl (Yv.fieldAddr fld25_4 rfl).yl ?_
              refine QOps.st rfl rfl (Yv.loadF lay3 rfl Report.len (Rd.arg hs) (by omega) (by decide) rfl).yl ?_
              refine QOps.st rfl rfl (Yv.move rfl).yl ?_
              refine QOps.st rfl rfl (Yv.neI rfl rfl).yl ?_
              refine QOps.nil ?_
              refine Run.cond rfl (fun hc6 => ?_) (fun hc6 => ?_)
              · exfalso
                simp [Report.marks_nth (show k < m by omega), Report.mark] at hc6; try omega
              · try replace hc6 := of_decide_eq_false hc6
                refine Run.skip ?_
                refine Run.seq ?_
                refine Run.quiet (by intro h; cases h) ?_
                refine QOps.st rfl rfl (Yv.move rfl).yl ?_
                refine QOps.st rfl rfl (Yv.add rfl rfl (by omega)).yl ?_
                refine QOps.st rfl rfl (Yv.assign rfl).yl ?_
                refine QOps.nil ?_
                refine Run.seq ?_
                refine Run.seq ?_
                refine Run.quiet (by intro h; cases h) ?_
                refine QOps.st rfl rfl (Yv.move rfl).yl ?_
                refine QOps.st rfl rfl (Yv.move rfl).yl ?_
                refine QOps.st rfl rfl (Yv.indexAddr k el31 rfl rfl rfl (Rd.arg hs) (by omega)).yl ?_
                refine QOps.st rfl rfl (Yv.fieldAddr fld25_5 rfl).yl ?_
                refine QOps.st rfl rfl (Yv.loadF lay3 rfl Report.len (Rd.arg hs) (by omega) (by decide) rfl).yl ?_
                refine QOps.st rfl rfl (Yv.move rfl).yl ?_
                refine QOps.st rfl rfl (Yv.neI rfl rfl).yl ?_
                refine QOps.nil ?_
                refine Run.cond rfl (fun hc7 => ?_) (fun hc7 => ?_)
                · exfalso
                  simp [Report.marks_nth (show k < m by omega), Report.mark] at hc7; try omega
                · try replace hc7 := of_decide_eq_false hc7
                  refine Run.skip ?_
                  refine Run.quiet (by intro h; cases h) ?_
                  refine QOps.st rfl rfl (Yv.move rfl).yl ?_
                  refine QOps.st rfl rfl (Yv.add rfl rfl (by omega)).yl ?_
                  refine QOps.st rfl rfl (Yv.assign rfl).yl ?_
                  refine QOps.nil ?_
                  refine Run.quiet (by intro h; cases h) ?_
                  refine QOps.st rfl rfl (Yv.move rfl).yl ?_
                  refine QOps.st rfl rfl (Yv.succN rfl rfl (by omega)).yl ?_
                  refine QOps.st rfl rfl (Yv.assign rfl).yl ?_
                  refine QOps.nil ?_
                  refine ⟨(k + 1, _), ?_, ?_, (SubE.cons rfl (SubE.cons rfl (SubE.cons rfl (SubE.nil _)))), (List.Sublist.refl _)⟩
                  · exact ⟨by omega, by omega⟩
                  · first | omega | (dsimp only; omega)
    · try replace hc1 := of_decide_eq_false hc1
      refine Run.exit ?_
      refine Run.seq ?_
      refine Run.quiet (by intro h; cases h) ?_
      refine QOps.st rfl rfl (Yv.move rfl).yl ?_
      refine QOps.st rfl rfl (Yv.assign rfl).yl ?_
      refine QOps.nil ?_
      refine Run.ret ?_
      obtain rfl : k = m := by omega
      refine retQ.of (.inr rfl) rfl (.tmp rfl .nil) (fun w' hw' => ?_)
      refine ⟨?_, hw'.bel.below⟩
      refine retI_eq ?_
      exact hj

theorem eqIntS_spec {w : World} {A A2 : Option Addr} {c c2 : Nat} {l : List Int} (hs : Sl w 1 A l.length c (l.flatMap intC)) (hs2 : Sl w 1 A2 l.length c2 (l.flatMap intC)) :
    Calls Try.prog 24 #[.slice A l.length c, .slice A2 l.length c2] w (RetB w (.bool true)) := by
  have hmx := Sl.lenle hs
  refine calls_of_run (vs := [_, _]) (L := [(0, _), (1, _)]) (n := 26) (F := []) (H := []) Try.func24 rfl rfl rfl rfl (HOk.start _) ?_
  refine Run.seq ?_
  refine Run.quiet (by intro h; cases h) ?_
  refine QOps.st rfl rfl (Yv.assign rfl).yl ?_
  refine QOps.nil ?_
  refine Run.seq ?_
  refine Run.seq ?_
  refine Run.quiet (by intro h; cases h) ?_
  refine QOps.st rfl rfl (Yv.move rfl).yl ?_
  refine QOps.st rfl rfl (Yv.lenS el39s rfl).yl ?_
  refine QOps.st rfl rfl (Yv.move rfl).yl ?_
  refine QOps.st rfl rfl (Yv.lenS el39s rfl).yl ?_
  refine QOps.st rfl rfl (Yv.neI rfl rfl).yl ?_
  refine QOps.nil ?_
  refine Run.cond rfl (fun hc1 => ?_) (fun hc1 => ?_)
  · exfalso
    simp at hc1
  · try replace hc1 := of_decide_eq_false hc1
    refine Run.skip ?_
    refine Run.seq ?_
    refine Run.seq ?_
    refine Run.quiet (by intro h; cases h) ?_
    refine QOps.st rfl rfl (Yv.assign rfl).yl ?_
    refine QOps.nil ?_
    refine Run.block ?_
    refine Run.loop (S := Nat) (fun s => match s with | k => k ≤ l.length) (fun s => match s with | k => [(0, .slice A l.length c), (1, .slice A2 l.length c2), (5, .int .i64 (k : Int))]) (fun s => match s with | k => []) (fun s => match s with | k => l.length - k) 0 ?_ (SubE.cons rfl (SubE.cons rfl (SubE.cons rfl (SubE.nil _)))) (List.Sublist.refl _) ?_
    · exact Nat.zero_le _
    · rintro k hk
      show Run _ _ _ _ _ [(0, .slice A l.length c), (1, .slice A2 l.length c2), (5, .int .i64 (k : Int))] [] _
      refine Run.seq ?_
      refine Run.seq ?_
      refine Run.quiet (by intro h; cases h) ?_
      refine QOps.st rfl rfl (Yv.move rfl).yl ?_
      refine QOps.st rfl rfl (Yv.move rfl).yl ?_
      refine QOps.st rfl rfl (Yv.lenS el39s rfl).yl ?_
      refine QOps.st rfl rfl (Yv.lss rfl rfl).yl ?_
      refine QOps.nil ?_
      refine Run.cond rfl (fun hc2 => ?_) (fun hc2 => ?_)
      · try replace hc2 := of_decide_eq_true hc2
        refine Run.skip ?_
        refine Run.seq ?_
        refine Run.block ?_
        refine Run.seq ?_
        refine Run.quiet (fun _ => ⟨by kernel_rfl, by kernel_rfl⟩) ?_
        refine QOps.st rfl rfl (Yv.move rfl).yl ?_
        refine QOps.st rfl rfl (Yv.move rfl).yl ?_
        refine QOps.st rfl rfl (Yv.indexAddr k el39 rfl rfl rfl (Rd.arg hs) (by omega)).yl ?_
        refine QOps.st rfl rfl (Yv.loadE lay3 rfl intC_len (Rd.arg hs) (by first | omega | (simp; omega)) rfl).yl ?_
        refine QOps.st rfl rfl (Yv.move rfl).yl ?_
        refine QOps.st rfl rfl (Yv.move rfl).yl ?_
        refine QOps.st rfl rfl (Yv.indexAddr k el39 rfl rfl rfl (Rd.arg hs2) (by omega)).yl ?_
        refine QOps.st rfl rfl (Yv.loadE lay3 rfl intC_len (Rd.arg hs2) (by first | omega | (simp; omega)) rfl).yl ?_
        refine QOps.st rfl rfl (Yv.neI rfl rfl).yl ?_
        refine QOps.nil ?_
        refine Run.cond rfl (fun hc3 => ?_) (fun hc3 => ?_)
        · exfalso
          simp at hc3
        · try replace hc3 := of_decide_eq_false hc3
          refine Run.skip ?_
          refine Run.quiet (by intro h; cases h) ?_
          refine QOps.st rfl rfl (Yv.move rfl).yl ?_
          refine QOps.st rfl rfl (Yv.succN rfl rfl (by omega)).yl ?_
          refine QOps.st rfl rfl (Yv.assign rfl).yl ?_
          refine QOps.nil ?_
          refine ⟨k + 1, ?_, ?_, (SubE.cons rfl (SubE.cons rfl (SubE.cons rfl (SubE.nil _)))), (List.Sublist.refl _)⟩
          · show k + 1 ≤ _; omega
          · first | omega | (dsimp only; omega)
      · try replace hc2 := of_decide_eq_false hc2
        refine Run.exit ?_
        refine Run.seq ?_
        refine Run.quiet (by intro h; cases h) ?_
        refine QOps.st rfl rfl (Yv.assign rfl).yl ?_
        refine QOps.nil ?_
        refine Run.ret ?_
        refine retQ.of (.inr rfl) rfl (.tmp rfl .nil) (fun w' hw' => ?_)
        refine ⟨?_, hw'.bel.below⟩
        exact rfl
/-- The marks that a row of numbers is given: the numbers from j on. -/
def marks (m : Nat) (j : Int) : List Int := (List.range m).map (fun (i : Nat) => j + (i : Int))
theorem marks_len (m : Nat) (j : Int) : (marks m j).length = m := by simp [marks]
theorem marks_nth {m : Nat} {j : Int} {i : Nat} (h : i < m) : nth (marks m j) i = j + (i : Int) := by simp [nth, marks, h]
theorem markIntS_spec {w : World} {A : Option Addr} {c T : Nat} {l : List Int} {j0 : Int} (hrow : (HEnt.row A c T 1 l.length (l.flatMap intC)).ok w) (hl : l.length ≤ 1048576) (h1 : 0 ≤ j0) (h2 : j0 ≤ 4611686018427387904) :
    Calls Try.prog 26 #[.slice A l.length c, .int .i64 j0] w (RetMut w A c T 1 l.length ((marks l.length j0).flatMap intC) (.int .i64 (j0 + (l.length : Int)))) := by
  refine calls_of_run (vs := [_, _]) (L := [(0, _), (1, _)]) (n := 19) (F := (A.map (·.block)).toList) (H := [_]) Try.func26 rfl rfl rfl rfl (HOk.borrowRow hrow) ?_
  refine Run.seq ?_
  refine Run.quiet (by intro h; cases h) ?_
  refine QOps.st rfl rfl (Yv.assign rfl).yl ?_
  refine QOps.nil ?_
  refine Run.seq ?_
  refine Run.seq ?_
  refine Run.quiet (by intro h; cases h) ?_
  refine QOps.st rfl rfl (Yv.assign rfl).yl ?_
  refine QOps.nil ?_
  refine Run.block ?_
  refine Run.loop (S := Nat × Int × List Int) (fun s => match s with | (k, j, o) => k ≤ l.length ∧ o.length = l.length ∧ j = j0 + (k : Int) ∧ ∀ i, i < k → nth o i = j0 + (i : Int)) (fun s => match s with | (k, j, o) => [(0, .slice A l.length c), (1, .int .i64 j), (5, .int .i64 (k : Int))]) (fun s => match s with | (k, j, o) => [.row A c T 1 l.length (o.flatMap intC)]) (fun s => match s with | (k, j, o) => l.length - k) (0, j0, l) ?_ (SubE.cons rfl (SubE.cons rfl (SubE.cons rfl (SubE.nil _)))) (List.Sublist.refl _) ?_
  · exact ⟨by omega, rfl, by simp, fun i hi => by omega⟩
  · rintro ⟨k, j, o⟩ ⟨hk, hol, hj, heq⟩
    show Run _ _ _ _ _ [(0, .slice A l.length c), (1, .int .i64 j), (5, .int .i64 (k : Int))] [.row A c T 1 l.length (o.flatMap intC)] _
    refine Run.seq ?_
    refine Run.seq ?_
    refine Run.quiet (by intro h; cases h) ?_
    refine QOps.st rfl rfl (Yv.move rfl).yl ?_
    refine QOps.st rfl rfl (Yv.move rfl).yl ?_
    refine QOps.st rfl rfl (Yv.lenS el39s rfl).yl ?_
    refine QOps.st rfl rfl (Yv.lss rfl rfl).yl ?_
    refine QOps.nil ?_
    refine Run.cond rfl (fun hc1 => ?_) (fun hc1 => ?_)
    · try replace hc1 := of_decide_eq_true hc1
      refine Run.skip ?_
      refine Run.seq ?_
      refine Run.block ?_
      refine Run.seq ?_
      refine Run.ops ?_
      refine SOps.st rfl rfl (Yv.move rfl).yl ?_
      refine SOps.st rfl rfl (Yv.move rfl).yl ?_
      refine SOps.st rfl rfl (Yv.move rfl).yl ?_
      refine SOps.st rfl rfl (Yv.indexAddr k el39 rfl rfl rfl (Rd.row (i := 0) rfl) (by omega)).yl ?_
      refine SOps.one rfl (One.storeE (i := 0) (k := k) (f := 0) (H' := [_]) (e := j) lay3 rfl rfl rfl intC_len rfl (by decide) rfl rfl rfl (by first | omega | (simp; omega)) (by first | omega | (simp; omega)) rfl ?_)
      refine SOps.nil ?_
      refine Run.quiet (by intro h; cases h) ?_
      refine QOps.st rfl rfl (Yv.move rfl).yl ?_
      refine QOps.st rfl rfl (Yv.add rfl rfl (by omega)).yl ?_
      refine QOps.st rfl rfl (Yv.assign rfl).yl ?_
      refine QOps.nil ?_
      refine Run.quiet (by intro h; cases h) ?_
      refine QOps.st rfl rfl (Yv.move rfl).yl ?_
      refine QOps.st rfl rfl (Yv.succN rfl rfl (by omega)).yl ?_
      refine QOps.st rfl rfl (Yv.assign rfl).yl ?_
      refine QOps.nil ?_
      refine ⟨(k + 1, _, _), ?_, ?_, (SubE.cons rfl (SubE.cons rfl (SubE.cons rfl (SubE.nil _)))), (List.Sublist.refl _)⟩
      · exact ⟨by omega, by simpa using hol, by omega, all_succ (fun i hi => by rw [nth_set_ne (by omega)]; exact heq i hi) (by rw [nth_set_self (by omega)]; exact hj)⟩
      · first | omega | (dsimp only; omega)
    · try replace hc1 := of_decide_eq_false hc1
      refine Run.exit ?_
      refine Run.seq ?_
      refine Run.quiet (by intro h; cases h) ?_
      refine QOps.st rfl rfl (Yv.move rfl).yl ?_
      refine QOps.st rfl rfl (Yv.assign rfl).yl ?_
      refine QOps.nil ?_
      refine Run.ret ?_
      obtain rfl : k = l.length := by omega
      have hoe : o = marks l.length j0 := eq_of_nth (by rw [hol, marks_len]) (fun i hi => by rw [marks_len] at hi; rw [marks_nth hi]; exact heq i hi)
      subst hoe
      refine retQ.of (.inr rfl) rfl (.tmp rfl .nil) (fun w' hw' => ?_)
      exact ⟨by rw [hj]; rfl, hw'.bel, hw'.ent _ (List.mem_of_getElem? (i := 0) rfl)⟩
theorem heldIntS_spec {w : World} {A : Option Addr} {c m : Nat} {j0 : Int} (hs : Sl w 1 A m c ((marks m j0).flatMap intC)) (hl : m ≤ 1048576) (h1 : 0 ≤ j0) (h2 : j0 ≤ 4611686018427387904) :
    Calls Try.prog 27 #[.slice A m c, .int .i64 j0] w (RetB w (.int .i64 (j0 + (m : Int)))) := by
  have hml := marks_len m j0
  refine calls_of_run (vs := [_, _]) (L := [(0, _), (1, _)]) (n := 21) (F := []) (H := []) Try.func27 rfl rfl rfl rfl (HOk.start _) ?_
  refine Run.seq ?_
  refine Run.quiet (by intro h; cases h) ?_
  refine QOps.st rfl rfl (Yv.assign rfl).yl ?_
  refine QOps.nil ?_
  refine Run.seq ?_
  refine Run.seq ?_
  refine Run.quiet (by intro h; cases h) ?_
  refine QOps.st rfl rfl (Yv.assign rfl).yl ?_
  refine QOps.nil ?_
  refine Run.block ?_
  refine Run.loop (S := Nat × Int) (fun s => match s with | (k, j) => k ≤ m ∧ j = j0 + (k : Int)) (fun s => match s with | (k, j) => [(0, .slice A m c), (1, .int .i64 j), (5, .int .i64 (k : Int))]) (fun s => match s with | (k, j) => []) (fun s => match s with | (k, j) => m - k) (0, j0) ?_ (SubE.cons rfl (SubE.cons rfl (SubE.cons rfl (SubE.nil _)))) (List.Sublist.refl _) ?_
  · exact ⟨by omega, by simp⟩
  · rintro ⟨k, j⟩ ⟨hk, hj⟩
    show Run _ _ _ _ _ [(0, .slice A m c), (1, .int .i64 j), (5, .int .i64 (k : Int))] [] _
    refine Run.seq ?_
    refine Run.seq ?_
    refine Run.quiet (by intro h; cases h) ?_
    refine QOps.st rfl rfl (Yv.move rfl).yl ?_
    refine QOps.st rfl rfl (Yv.move rfl).yl ?_
    refine QOps.st rfl rfl (Yv.lenS el39s rfl).yl ?_
    refine QOps.st rfl rfl (Yv.lss rfl rfl).yl ?_
    refine QOps.nil ?_
    refine Run.cond rfl (fun hc1 => ?_) (fun hc1 => ?_)
    · try replace hc1 := of_decide_eq_true hc1
      refine Run.skip ?_
      refine Run.seq ?_
      refine Run.block ?_
      refine Run.seq ?_
      refine Run.seq ?_
      refine Run.quiet (by intro h; cases h) ?_
      refine QOps.st rfl rfl (Yv.move rfl).yl ?_
      refine QOps.st rfl rfl (Yv.move rfl).yl ?_
      refine QOps.st rfl rfl (Yv.indexAddr k el39 rfl rfl rfl (Rd.arg hs) (by omega)).yl ?_
      refine QOps.st rfl rfl (Yv.loadE lay3 rfl intC_len (Rd.arg hs) (by omega) rfl).yl ?_
      refine QOps.st rfl rfl (Yv.move rfl).yl ?_
      refine QOps.st rfl rfl (Yv.neI rfl rfl).yl ?_
      refine QOps.nil ?_
      refine Run.cond rfl (fun hc2 => ?_) (fun hc2 => ?_)
      · exfalso
        simp [marks_nth (show k < m by omega)] at hc2; try omega
      · try replace hc2 := of_decide_eq_false hc2
        refine Run.skip ?_
        refine Run.quiet (by intro h; cases h) ?_
        refine QOps.st rfl rfl (Yv.move rfl).yl ?_
        refine QOps.st rfl rfl (Yv.add rfl rfl (by omega)).yl ?_
        refine QOps.st rfl rfl (Yv.assign rfl).yl ?_
        refine QOps.nil ?_
        refine Run.quiet (by intro h; cases h) ?_
        refine QOps.st rfl rfl (Yv.move rfl).yl ?_
        refine QOps.st rfl rfl (Yv.succN rfl rfl (by omega)).yl ?_
        refine QOps.st rfl rfl (Yv.assign rfl).yl ?_
        refine QOps.nil ?_
        refine ⟨(k + 1, _), ?_, ?_, (SubE.cons rfl (SubE.cons rfl (SubE.cons rfl (SubE.nil _)))), (List.Sublist.refl _)⟩
        · exact ⟨by omega, by omega⟩
        · first | omega | (dsimp only; omega)
    · try replace hc1 := of_decide_eq_false hc1
      refine Run.exit ?_
      refine Run.seq ?_
      refine Run.quiet (by intro h; cases h) ?_
      refine QOps.st rfl rfl (Yv.move rfl).yl ?_
      refine QOps.st rfl rfl (Yv.assign rfl).yl ?_
      refine QOps.nil ?_
      refine Run.ret ?_
      obtain rfl : k = m := by omega
      refine retQ.of (.inr rfl) rfl (.tmp rfl .nil) (fun w' hw' => ?_)
      refine ⟨?_, hw'.bel.below⟩
      refine retI_eq ?_
      exact hj

theorem idxReport_spec {w : World} {A : Option Addr} {c n : Nat} {l : List Report} {f : FuncId} {cap : List Value} {p : Report → Bool} (hs : Sl w 6 A n c (l.flatMap Report.enc)) (hn : l.length = n) (hf : callable Try.prog f = true) (hcl : ∀ w', Below w.heap.size w w' → ∀ i, i < n → Calls Try.prog f (#[] ++ [.agg (Report.enc (nth l i)).toArray].toArray ++ cap.toArray) w' (RetB w' (.bool (p (nth l i))))) :
    Calls Try.prog 62 #[.slice A n c, .func (.func f) #[] cap.toArray] w (RetB w (.int .i64 (match firstTo n (fun k => p (nth l k)) with | some k => (k : Int) | none => -1))) := by
  have hmx := Sl.lenle hs
  refine calls_of_run (vs := [_, _]) (L := [(0, _), (1, _)]) (n := 19) (F := []) (H := []) Try.func62 rfl rfl rfl rfl (HOk.start _) ?_
  refine Run.seq ?_
  refine Run.quiet (by intro h; cases h) ?_
  refine QOps.st rfl rfl (Yv.assign rfl).yl ?_
  refine QOps.nil ?_
  refine Run.seq ?_
  refine Run.seq ?_
  refine Run.quiet (by intro h; cases h) ?_
  refine QOps.st rfl rfl (Yv.move rfl).yl ?_
  refine QOps.st rfl rfl (Yv.lenS el31s rfl).yl ?_
  refine QOps.st rfl rfl (Yv.move rfl).yl ?_
  refine QOps.nil ?_
  refine Run.block ?_
  refine Run.loop (S := Nat) (fun s => match s with | k => k ≤ n ∧ ∀ i, i < k → p (nth l i) = false) (fun s => match s with | k => [(0, .slice A n c), (1, .func (.func f) #[] cap.toArray), (7, .int .i64 (n : Int)), (8, .int .i64 (k : Int))]) (fun s => match s with | k => []) (fun s => match s with | k => n - k) 0 ?_ (SubE.cons rfl (SubE.cons rfl (SubE.cons rfl (SubE.cons rfl (SubE.nil _))))) (List.Sublist.refl _) ?_
  · exact ⟨by omega, fun i hi => by omega⟩
  · rintro k ⟨hk, hall⟩
    show Run _ _ _ _ _ [(0, .slice A n c), (1, .func (.func f) #[] cap.toArray), (7, .int .i64 (n : Int)), (8, .int .i64 (k : Int))] [] _
    refine Run.seq ?_
    refine Run.quiet (by intro h; cases h) ?_
    refine QOps.st rfl rfl (Yv.lss rfl rfl).yl ?_
    refine QOps.nil ?_
    refine Run.seq ?_
    refine Run.cond rfl (fun hc1 => ?_) (fun hc1 => ?_)
    · try replace hc1 := of_decide_eq_true hc1
      refine Run.skip ?_
      refine Run.seq ?_
      refine Run.block ?_
      refine Run.seq ?_
      refine Run.quiet (by intro h; cases h) ?_
      refine QOps.st rfl rfl (Yv.move rfl).yl ?_
      refine QOps.st rfl rfl (Yv.assign rfl).yl ?_
      refine QOps.nil ?_
      refine Run.seq ?_
      refine Run.quiet (by intro h; cases h) ?_
      refine QOps.st rfl rfl (Yv.move rfl).yl ?_
      refine QOps.st rfl rfl (Yv.move rfl).yl ?_
      refine QOps.st rfl rfl (Yv.move rfl).yl ?_
      refine QOps.st rfl rfl (Yv.indexAddr k el31 rfl rfl rfl (Rd.arg hs) (by omega)).yl ?_
      refine QOps.st rfl rfl (Yv.loadEs lay25 rfl Report.len (Rd.arg hs) (by first | omega | (simp; omega)) (by decide)).yl ?_
      refine QOps.st rfl rfl (Yl.callV rfl hf (.cons rfl (.nil)) (fun w' hw' => hcl w' hw'.bel.below k (by omega))) ?_
      refine QOps.nil ?_
      refine Run.cond rfl (fun hc2 => ?_) (fun hc2 => ?_)
      · try replace hc2 := of_decide_eq_true hc2
        refine Run.seq ?_
        refine Run.quiet (by intro h; cases h) ?_
        refine QOps.st rfl rfl (Yv.move rfl).yl ?_
        refine QOps.st rfl rfl (Yv.assign rfl).yl ?_
        refine QOps.nil ?_
        refine Run.ret ?_
        refine retQ.of (.inr rfl) rfl (.tmp rfl .nil) (fun w' hw' => ?_)
        refine ⟨?_, hw'.bel.below⟩
        refine retI_eq ?_
        rw [firstTo_some (k := k) (by omega) hc2 hall]
      · try replace hc2 := of_decide_eq_false hc2
        refine Run.skip ?_
        refine Run.quiet (by intro h; cases h) ?_
        refine QOps.st rfl rfl (Yv.succN rfl rfl (by omega)).yl ?_
        refine QOps.st rfl rfl (Yv.move rfl).yl ?_
        refine QOps.nil ?_
        refine ⟨k + 1, ?_, ?_, (SubE.cons rfl (SubE.cons rfl (SubE.cons rfl (SubE.cons rfl (SubE.nil _))))), (List.Sublist.refl _)⟩
        · exact ⟨by omega, all_succ hall hc2⟩
        · first | omega | (dsimp only; omega)
    · try replace hc1 := of_decide_eq_false hc1
      refine Run.exit ?_
      refine Run.seq ?_
      refine Run.quiet (by intro h; cases h) ?_
      refine QOps.st rfl rfl (Yv.assign rfl).yl ?_
      refine QOps.nil ?_
      refine Run.ret ?_
      refine retQ.of (.inr rfl) rfl (.tmp rfl .nil) (fun w' hw' => ?_)
      refine ⟨?_, hw'.bel.below⟩
      refine retI_eq ?_
      rw [firstTo_none (fun i hi => hall i (by omega))]
theorem hasReport_spec {w : World} {A : Option Addr} {c n : Nat} {l : List Report} {f : FuncId} {cap : List Value} {p : Report → Bool} (hs : Sl w 6 A n c (l.flatMap Report.enc)) (hn : l.length = n) (hf : callable Try.prog f = true) (hcl : ∀ w', Below w.heap.size w w' → ∀ i, i < n → Calls Try.prog f (#[] ++ [.agg (Report.enc (nth l i)).toArray].toArray ++ cap.toArray) w' (RetB w' (.bool (p (nth l i))))) :
    Calls Try.prog 50 #[.slice A n c, .func (.func f) #[] cap.toArray] w (RetB w (.bool (!allTo n (fun k => !p (nth l k))))) := by
  refine calls_of_run (vs := [_, _]) (L := [(0, _), (1, _)]) (n := 9) (F := []) (H := []) Try.func50 rfl rfl rfl rfl (HOk.start _) ?_
  refine Run.seq ?_
  refine Run.quiet (by intro h; cases h) ?_
  refine QOps.st rfl rfl (Yv.assign rfl).yl ?_
  refine QOps.nil ?_
  refine Run.seq ?_
  refine Run.quiet (by intro h; cases h) ?_
  refine QOps.st rfl rfl (Yv.move rfl).yl ?_
  refine QOps.st rfl rfl (Yv.move rfl).yl ?_
  refine QOps.st rfl rfl (Yl.call callable62 (.cons rfl (.cons rfl (.nil))) (fun w' hw' => idxReport_spec ((Rd.arg hs) w' hw') hn hf (fun w'' hb i hi => hcl w'' (hw'.up hb).bel.below i hi))) ?_
  refine QOps.st rfl rfl (Yv.geq rfl rfl).yl ?_
  refine QOps.st rfl rfl (Yv.assign rfl).yl ?_
  refine QOps.nil ?_
  refine Run.ret ?_
  refine retQ.of (.inr rfl) rfl (.tmp rfl .nil) (fun w' hw' => ?_)
  refine ⟨?_, hw'.bel.below⟩
  refine retB_eq ?_
  by_cases hall : ∀ i, i < n → (!p (nth l i)) = true
  · rw [firstTo_none (fun i hi => by simpa using hall i hi), allTo_iff.2 hall]; rfl
  · obtain ⟨k, hk, hp, hlt⟩ := exists_first hall
    rw [firstTo_some (k := k) hk (by simpa using hp) (fun i hi => by simpa using hlt i hi), allTo_false hk hp]; simp

end Go.Proofs.Ytlpgcbkialcjcaa
