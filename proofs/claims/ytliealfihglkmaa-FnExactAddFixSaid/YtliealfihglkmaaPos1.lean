/- Fixes: the laws' own helper functions over them. Conditions: none. -/
import Derived.Test.YtliealfihglkmaaTab
import Derived.Test.YtliealfihglkmaaBase
namespace Go.Proofs.Ytliealfihglkmaa
open Go.RowKit
structure Fix where
  minute : Int
  place : Int
  error : Int
instance : Inhabited Fix := ⟨⟨0, 0, 0⟩⟩
def Fix.enc (f : Fix) : List Value := [.int .i64 f.minute, .int .i64 f.place, .int .i64 f.error]
theorem Fix.len (f : Fix) : f.enc.length = 3 := rfl
theorem Fix.one (f : Fix) : f.enc.all Value.oneCell' = true := rfl

theorem toFix_spec {w : World} {f : Fix} : Calls Try.prog 33 #[.agg f.enc.toArray] w (RetB w (.agg f.enc.toArray)) := by
  refine calls_of_run (vs := [_]) (L := [(0, _)]) (n := 14) (F := []) (H := []) Try.func33 rfl rfl rfl rfl (HOk.start _) ?_
  refine Run.seq ?_
  refine Run.ops ?_
  refine SOps.one rfl (One.box (cs := [_, _, _]) rfl rfl rfl (fun b1 => ?_))
  refine SOps.one rfl (One.alloc rfl zero49 (fun b2 => ?_))
  refine SOps.nil ?_
  refine Run.seq ?_
  refine Run.ops ?_
  refine SOps.one rfl (One.alloc rfl zero49 (fun b3 => ?_))
  refine SOps.nil ?_
  refine Run.seq ?_
  refine Run.ops ?_
  refine SOps.st rfl rfl (Yv.fieldAddr fld46_0 rfl).yl ?_
  refine SOps.st rfl rfl (Yv.loadB (i := 2) lay3 rfl rfl rfl rfl).yl ?_
  refine SOps.st rfl rfl (Yv.fieldAddr fld49_0 rfl).yl ?_
  refine SOps.one rfl (One.store (i := 0) (off := 0) (vs := [_]) (cs' := [_, _, _]) (H' := [_, _, _]) lay3 rfl rfl rfl rfl rfl rfl rfl rfl rfl rfl ?_)
  refine SOps.nil ?_
  refine Run.seq ?_
  refine Run.ops ?_
  refine SOps.st rfl rfl (Yv.fieldAddr fld46_1 rfl).yl ?_
  refine SOps.st rfl rfl (Yv.loadB (i := 2) lay3 rfl rfl rfl rfl).yl ?_
  refine SOps.st rfl rfl (Yv.fieldAddr fld49_1 rfl).yl ?_
  refine SOps.one rfl (One.store (i := 0) (off := 1) (vs := [_]) (cs' := [_, _, _]) (H' := [_, _, _]) lay3 rfl rfl rfl rfl rfl rfl rfl rfl rfl rfl ?_)
  refine SOps.nil ?_
  refine Run.seq ?_
  refine Run.ops ?_
  refine SOps.st rfl rfl (Yv.fieldAddr fld46_2 rfl).yl ?_
  refine SOps.st rfl rfl (Yv.loadB (i := 2) lay3 rfl rfl rfl rfl).yl ?_
  refine SOps.st rfl rfl (Yv.fieldAddr fld49_2 rfl).yl ?_
  refine SOps.one rfl (One.store (i := 0) (off := 2) (vs := [_]) (cs' := [_, _, _]) (H' := [_, _, _]) lay3 rfl rfl rfl rfl rfl rfl rfl rfl rfl rfl ?_)
  refine SOps.nil ?_
  refine Run.seq ?_
  refine Run.ops ?_
  refine SOps.st rfl rfl (Yv.loadBs (i := 0) lay49 rfl rfl rfl rfl).yl ?_
  refine SOps.one rfl (One.store (i := 1) (off := 0) (vs := [_, _, _]) (cs' := [_, _, _]) (H' := [_, _, _]) lay49 rfl rfl rfl rfl rfl rfl rfl rfl rfl rfl ?_)
  refine SOps.nil ?_
  refine Run.ret ?_
  refine retQ.of (.inr rfl) rfl (.cells (i := 1) rfl lay49 rfl rfl .nil) (fun w' hw' => ?_)
  refine ⟨?_, hw'.bel.below⟩
  exact rfl

theorem toFixS_spec {w : World} {A : Option Addr} {c : Nat} {l : List Fix} (hs : Sl w 3 A l.length c (l.flatMap Fix.enc)) (hb : 24 * l.length ≤ 281474976710656) :
    Calls Try.prog 16 #[.slice A l.length c] w (RetRow w 49 3 l.length (l.flatMap Fix.enc) (fun v => v)) := by
  refine calls_of_run (vs := [_]) (L := [(0, _)]) (n := 23) (F := []) (H := []) Try.func16 rfl rfl rfl rfl (HOk.start _) ?_
  refine Run.seq ?_
  refine Run.quiet (by intro h; cases h) ?_
  refine QOps.st rfl rfl (Yv.assign rfl).yl ?_
  refine QOps.nil ?_
  refine Run.seq ?_
  refine Run.ops ?_
  refine SOps.st rfl rfl (Yv.move rfl).yl ?_
  refine SOps.st rfl rfl (Yv.lenS el22s rfl).yl ?_
  refine SOps.one rfl (One.make (enc := Fix.enc) (m := l.length) default rfl el25 zero49 rfl Fix.len (by decide) rfl rfl (by omega) (by omega) (fun b1 => ?_))
  refine SOps.st rfl rfl (Yv.assign rfl).yl ?_
  refine SOps.nil ?_
  refine Run.seq ?_
  refine Run.seq ?_
  refine Run.quiet (by intro h; cases h) ?_
  refine QOps.st rfl rfl (Yv.assign rfl).yl ?_
  refine QOps.nil ?_
  refine Run.block ?_
  refine Run.loop (S := Nat × List Fix) (fun s => match s with | (k, o) => k ≤ l.length ∧ o.length = l.length ∧ ∀ i, i < k → nth o i = nth l i) (fun s => match s with | (k, o) => [(0, .slice A l.length c), (3, .slice (some ⟨b1, 0, none⟩) l.length l.length), (4, .int .i64 (k : Int))]) (fun s => match s with | (k, o) => [.row (some ⟨b1, 0, none⟩) l.length 49 3 l.length (o.flatMap Fix.enc)]) (fun s => match s with | (k, o) => l.length - k) (0, List.replicate l.length default) ?_ (SubE.cons rfl (SubE.cons rfl (SubE.cons rfl (SubE.nil _)))) (List.Sublist.refl _) ?_
  · exact ⟨by omega, by simp, fun i hi => by omega⟩
  · rintro ⟨k, o⟩ ⟨hk, hol, heq⟩
    show Run _ _ _ _ _ [(0, .slice A l.length c), (3, .slice (some ⟨b1, 0, none⟩) l.length l.length), (4, .int .i64 (k : Int))] [.row (some ⟨b1, 0, none⟩) l.length 49 3 l.length (o.flatMap Fix.enc)] _
    refine Run.seq ?_
    refine Run.seq ?_
    refine Run.quiet (by intro h; cases h) ?_
    refine QOps.st rfl rfl (Yv.move rfl).yl ?_
    refine QOps.st rfl rfl (Yv.move rfl).yl ?_
    refine QOps.st rfl rfl (Yv.lenS el22s rfl).yl ?_
    refine QOps.st rfl rfl (Yv.lss rfl rfl).yl ?_
    refine QOps.nil ?_
    refine Run.cond rfl (fun hc1 => ?_) (fun hc1 => ?_)
    · try replace hc1 := of_decide_eq_true hc1
      refine Run.skip ?_
      refine Run.seq ?_
      refine Run.block ?_
      refine Run.ops ?_
      refine SOps.st rfl rfl (Yv.move rfl).yl ?_
      refine SOps.st rfl rfl (Yv.move rfl).yl ?_
      refine SOps.st rfl rfl (Yv.move rfl).yl ?_
      refine SOps.st rfl rfl (Yv.move rfl).yl ?_
      refine SOps.st rfl rfl (Yv.indexAddr k el22 rfl rfl rfl (Rd.arg hs) (by omega)).yl ?_
      refine SOps.st rfl rfl (Yv.loadEs lay46 rfl Fix.len (Rd.arg hs) (by first | omega | (simp; omega)) (by decide)).yl ?_
      refine SOps.st rfl rfl (Yl.call callable33 (.cons rfl (.nil)) (fun w' hw' => toFix_spec)) ?_
      refine SOps.st rfl rfl (Yv.indexAddr k el25 rfl rfl rfl (Rd.row (i := 0) rfl) (by omega)).yl ?_
      refine SOps.one rfl (One.storeE (i := 0) (k := k) (f := 0) (H' := [_]) (e := nth l k) lay49 rfl rfl rfl Fix.len rfl (by decide) rfl rfl rfl hol (by omega) rfl ?_)
      refine SOps.nil ?_
      refine Run.quiet (by intro h; cases h) ?_
      refine QOps.st rfl rfl (Yv.move rfl).yl ?_
      refine QOps.st rfl rfl (Yv.succN rfl rfl (by omega)).yl ?_
      refine QOps.st rfl rfl (Yv.assign rfl).yl ?_
      refine QOps.nil ?_
      refine ⟨(k + 1, _), ?_, ?_, (SubE.cons rfl (SubE.cons rfl (SubE.cons rfl (SubE.nil _)))), (List.Sublist.refl _)⟩
      · exact ⟨by omega, by simpa using hol, all_succ (fun i hi => by rw [nth_set_ne (by omega)]; exact heq i hi) (nth_set_self (by omega))⟩
      · first | omega | (dsimp only; omega)
    · try replace hc1 := of_decide_eq_false hc1
      refine Run.exit ?_
      refine Run.seq ?_
      refine Run.quiet (by intro h; cases h) ?_
      refine QOps.st rfl rfl (Yv.move rfl).yl ?_
      refine QOps.st rfl rfl (Yv.assign rfl).yl ?_
      refine QOps.nil ?_
      refine Run.ret ?_
      obtain rfl : k = l.length := by omega
      obtain rfl := eq_of_nth hol heq
      refine retQ.of (.inr rfl) rfl (.tmp rfl .nil) (fun w' hw' => ?_)
      exact ⟨_, _, rfl, hw'.bel.below, hw'.ent _ (List.mem_of_getElem? (i := 0) rfl), fun g hg => (hw'.own _ (List.mem_of_getElem? (i := 0) rfl) g hg).elim id (by simp)⟩

theorem szFixS_spec {w : World} {A : Option Addr} {c n : Nat} {left : Int} (hn : n ≤ 4611686018427387904) (h1 : 0 ≤ left) (h2 : left ≤ 4611686018427387904) :
    Calls Try.prog 14 #[.slice A n c, .int .i64 left] w (RetB w (.int .i64 (if left < (n : Int) then -1 else left - n))) := by
  refine calls_of_run (vs := [_, _]) (L := [(0, _), (1, _)]) (n := 12) (F := []) (H := []) Try.func14 rfl rfl rfl rfl (HOk.start _) ?_
  refine Run.seq ?_
  refine Run.quiet (by intro h; cases h) ?_
  refine QOps.st rfl rfl (Yv.assign rfl).yl ?_
  refine QOps.nil ?_
  refine Run.seq ?_
  refine Run.quiet (by intro h; cases h) ?_
  refine QOps.st rfl rfl (Yv.move rfl).yl ?_
  refine QOps.st rfl rfl (Yv.move rfl).yl ?_
  refine QOps.st rfl rfl (Yv.lenS el22s rfl).yl ?_
  refine QOps.st rfl rfl (Yv.sub rfl rfl (by omega)).yl ?_
  refine QOps.st rfl rfl (Yv.assign rfl).yl ?_
  refine QOps.nil ?_
  refine Run.seq ?_
  refine Run.seq ?_
  refine Run.quiet (by intro h; cases h) ?_
  refine QOps.st rfl rfl (Yv.move rfl).yl ?_
  refine QOps.st rfl rfl (Yv.lss rfl rfl).yl ?_
  refine QOps.nil ?_
  refine Run.cond rfl (fun hc1 => ?_) (fun hc1 => ?_)
  · try replace hc1 := of_decide_eq_true hc1
    refine Run.seq ?_
    refine Run.quiet (by intro h; cases h) ?_
    refine QOps.st rfl rfl (Yv.assign rfl).yl ?_
    refine QOps.nil ?_
    refine Run.ret ?_
    refine retQ.of (.inr rfl) rfl (.tmp rfl .nil) (fun w' hw' => ?_)
    refine ⟨?_, hw'.bel.below⟩
    refine retI_eq ?_
    rw [if_pos (by omega)]
  · try replace hc1 := of_decide_eq_false hc1
    refine Run.skip ?_
    refine Run.seq ?_
    refine Run.quiet (by intro h; cases h) ?_
    refine QOps.st rfl rfl (Yv.move rfl).yl ?_
    refine QOps.st rfl rfl (Yv.assign rfl).yl ?_
    refine QOps.nil ?_
    refine Run.ret ?_
    refine retQ.of (.inr rfl) rfl (.tmp rfl .nil) (fun w' hw' => ?_)
    refine ⟨?_, hw'.bel.below⟩
    refine retI_eq ?_
    rw [if_neg (by omega)]

theorem eqFix_spec {w : World} {f : Fix} : Calls Try.prog 54 #[.agg f.enc.toArray, .agg f.enc.toArray] w (RetB w (.bool true)) := by
  refine calls_of_run (vs := [_, _]) (L := [(0, _), (1, _)]) (n := 20) (F := []) (H := []) Try.func54 rfl rfl rfl rfl (HOk.start _) ?_
  refine Run.seq ?_
  refine Run.ops ?_
  refine SOps.one rfl (One.box (cs := [_, _, _]) rfl rfl rfl (fun b1 => ?_))
  refine SOps.one rfl (One.box (cs := [_, _, _]) rfl rfl rfl (fun b2 => ?_))
  refine SOps.st rfl rfl (Yv.assign rfl).yl ?_
  refine SOps.nil ?_
  refine Run.seq ?_
  refine Run.seq ?_
  refine Run.quiet (by intro h; cases h) ?_
  refine QOps.st rfl rfl (Yv.fieldAddr fld49_0 rfl).yl ?_
  refine QOps.st rfl rfl (Yv.loadB (i := 1) lay3 rfl rfl rfl rfl).yl ?_
  refine QOps.st rfl rfl (Yv.fieldAddr fld49_0 rfl).yl ?_
  refine QOps.st rfl rfl (Yv.loadB (i := 0) lay3 rfl rfl rfl rfl).yl ?_
  refine QOps.st rfl rfl (Yv.neI rfl rfl).yl ?_
  refine QOps.nil ?_
  refine Run.cond rfl (fun hc1 => ?_) (fun hc1 => ?_)
  · exfalso
    simp at hc1
  · try replace hc1 := of_decide_eq_false hc1
    refine Run.skip ?_
    refine Run.seq ?_
    refine Run.seq ?_
    refine Run.quiet (by intro h; cases h) ?_
    refine QOps.st rfl rfl (Yv.fieldAddr fld49_1 rfl).yl ?_
    refine QOps.st rfl rfl (Yv.loadB (i := 1) lay3 rfl rfl rfl rfl).yl ?_
    refine QOps.st rfl rfl (Yv.fieldAddr fld49_1 rfl).yl ?_
    refine QOps.st rfl rfl (Yv.loadB (i := 0) lay3 rfl rfl rfl rfl).yl ?_
    refine QOps.st rfl rfl (Yv.neI rfl rfl).yl ?_
    refine QOps.nil ?_
    refine Run.cond rfl (fun hc2 => ?_) (fun hc2 => ?_)
    · exfalso
      simp at hc2
    · try replace hc2 := of_decide_eq_false hc2
      refine Run.skip ?_
      refine Run.seq ?_
      refine Run.seq ?_
      refine Run.quiet (by intro h; cases h) ?_
      refine QOps.st rfl rfl (Yv.fieldAddr fld49_2 rfl).yl ?_
      refine QOps.st rfl rfl (Yv.loadB (i := 1) lay3 rfl rfl rfl rfl).yl ?_
      refine QOps.st rfl rfl (Yv.fieldAddr fld49_2 rfl).yl ?_
      refine QOps.st rfl rfl (Yv.loadB (i := 0) lay3 rfl rfl rfl rfl).yl ?_
      refine QOps.st rfl rfl (Yv.neI rfl rfl).yl ?_
      refine QOps.nil ?_
      refine Run.cond rfl (fun hc3 => ?_) (fun hc3 => ?_)
      · exfalso
        simp at hc3
      · try replace hc3 := of_decide_eq_false hc3
        refine Run.skip ?_
        refine Run.seq ?_
        refine Run.quiet (by intro h; cases h) ?_
        refine QOps.st rfl rfl (Yv.assign rfl).yl ?_
        refine QOps.nil ?_
        refine Run.ret ?_
        refine retQ.of (.inr rfl) rfl (.tmp rfl .nil) (fun w' hw' => ?_)
        refine ⟨?_, hw'.bel.below⟩
        exact rfl

theorem eqFixS_spec {w : World} {A A2 : Option Addr} {c c2 : Nat} {l : List Fix} (hs : Sl w 3 A l.length c (l.flatMap Fix.enc)) (hs2 : Sl w 3 A2 l.length c2 (l.flatMap Fix.enc)) :
    Calls Try.prog 18 #[.slice A l.length c, .slice A2 l.length c2] w (RetB w (.bool true)) := by
  have hmx := Sl.lenle hs
  refine calls_of_run (vs := [_, _]) (L := [(0, _), (1, _)]) (n := 27) (F := []) (H := []) Try.func18 rfl rfl rfl rfl (HOk.start _) ?_
  refine Run.seq ?_
  refine Run.quiet (by intro h; cases h) ?_
  refine QOps.st rfl rfl (Yv.assign rfl).yl ?_
  refine QOps.nil ?_
  refine Run.seq ?_
  refine Run.seq ?_
  refine Run.quiet (by intro h; cases h) ?_
  refine QOps.st rfl rfl (Yv.move rfl).yl ?_
  refine QOps.st rfl rfl (Yv.lenS el25s rfl).yl ?_
  refine QOps.st rfl rfl (Yv.move rfl).yl ?_
  refine QOps.st rfl rfl (Yv.lenS el25s rfl).yl ?_
  refine QOps.st rfl rfl (Yv.neI rfl rfl).yl ?_
  refine QOps.nil ?_
  refine Run.cond rfl (fun hc1 => ?_) (fun hc1 => ?_)
  · exfalso
    simp at hc1
  · try replace hc1 := of_decide_eq_false hc1
    refine Run.skip ?_
    refine Run.seq ?_
    refine Run.seq ?_
    refine Run.quiet (by intro h; cases h) ?_
    refine QOps.st rfl rfl (Yv.assign rfl).yl ?_
    refine QOps.nil ?_
    refine Run.block ?_
    refine Run.loop (S := Nat) (fun s => match s with | k => k ≤ l.length) (fun s => match s with | k => [(0, .slice A l.length c), (1, .slice A2 l.length c2), (5, .int .i64 (k : Int))]) (fun s => match s with | k => []) (fun s => match s with | k => l.length - k) 0 ?_ (SubE.cons rfl (SubE.cons rfl (SubE.cons rfl (SubE.nil _)))) (List.Sublist.refl _) ?_
    · exact Nat.zero_le _
    · rintro k hk
      show Run _ _ _ _ _ [(0, .slice A l.length c), (1, .slice A2 l.length c2), (5, .int .i64 (k : Int))] [] _
      refine Run.seq ?_
      refine Run.seq ?_
      refine Run.quiet (by intro h; cases h) ?_
      refine QOps.st rfl rfl (Yv.move rfl).yl ?_
      refine QOps.st rfl rfl (Yv.move rfl).yl ?_
      refine QOps.st rfl rfl (Yv.lenS el25s rfl).yl ?_
      refine QOps.st rfl rfl (Yv.lss rfl rfl).yl ?_
      refine QOps.nil ?_
      refine Run.cond rfl (fun hc2 => ?_) (fun hc2 => ?_)
      · try replace hc2 := of_decide_eq_true hc2
        refine Run.skip ?_
        refine Run.seq ?_
        refine Run.block ?_
        refine Run.seq ?_
        refine Run.quiet (fun _ => ⟨by kernel_rfl, by kernel_rfl⟩) ?_
        refine QOps.st rfl rfl (Yv.move rfl).yl ?_
        refine QOps.st rfl rfl (Yv.move rfl).yl ?_
        refine QOps.st rfl rfl (Yv.indexAddr k el25 rfl rfl rfl (Rd.arg hs) (by omega)).yl ?_
        refine QOps.st rfl rfl (Yv.loadEs lay49 rfl Fix.len (Rd.arg hs) (by first | omega | (simp; omega)) (by decide)).yl ?_
        refine QOps.st rfl rfl (Yv.move rfl).yl ?_
        refine QOps.st rfl rfl (Yv.move rfl).yl ?_
        refine QOps.st rfl rfl (Yv.indexAddr k el25 rfl rfl rfl (Rd.arg hs2) (by omega)).yl ?_
        refine QOps.st rfl rfl (Yv.loadEs lay49 rfl Fix.len (Rd.arg hs2) (by first | omega | (simp; omega)) (by decide)).yl ?_
        refine QOps.st rfl rfl (Yl.call callable54 (.cons rfl (.cons rfl (.nil))) (fun w' hw' => eqFix_spec)) ?_
        refine QOps.st rfl rfl (Yv.not rfl).yl ?_
        refine QOps.nil ?_
        refine Run.cond rfl (fun hc3 => ?_) (fun hc3 => ?_)
        · exfalso
          simp at hc3
        · try replace hc3 := of_decide_eq_false hc3
          refine Run.skip ?_
          refine Run.quiet (by intro h; cases h) ?_
          refine QOps.st rfl rfl (Yv.move rfl).yl ?_
          refine QOps.st rfl rfl (Yv.succN rfl rfl (by omega)).yl ?_
          refine QOps.st rfl rfl (Yv.assign rfl).yl ?_
          refine QOps.nil ?_
          refine ⟨k + 1, ?_, ?_, (SubE.cons rfl (SubE.cons rfl (SubE.cons rfl (SubE.nil _)))), (List.Sublist.refl _)⟩
          · show k + 1 ≤ _; omega
          · first | omega | (dsimp only; omega)
      · try replace hc2 := of_decide_eq_false hc2
        refine Run.exit ?_
        refine Run.seq ?_
        refine Run.quiet (by intro h; cases h) ?_
        refine QOps.st rfl rfl (Yv.assign rfl).yl ?_
        refine QOps.nil ?_
        refine Run.ret ?_
        refine retQ.of (.inr rfl) rfl (.tmp rfl .nil) (fun w' hw' => ?_)
        refine ⟨?_, hw'.bel.below⟩
        exact rfl

/-- The marks that a row is given: the numbers from j on. -/
def Fix.mark (j : Int) (i : Nat) : Fix := ⟨j + 3 * (i : Int), j + 3 * (i : Int) + 1, j + 3 * (i : Int) + 2⟩
def Fix.marks (m : Nat) (j : Int) : List Fix := (List.range m).map (Fix.mark j)
theorem Fix.marks_len (m : Nat) (j : Int) : (Fix.marks m j).length = m := by simp [Fix.marks]
theorem Fix.marks_nth {m : Nat} {j : Int} {i : Nat} (h : i < m) : nth (Fix.marks m j) i = Fix.mark j i := by simp [nth, Fix.marks, h]

theorem markFixS_spec {w : World} {A : Option Addr} {c T : Nat} {l : List Fix} {j0 : Int} (hrow : (HEnt.row A c T 3 l.length (l.flatMap Fix.enc)).ok w) (hl : l.length ≤ 1048576) (h1 : 0 ≤ j0) (h2 : j0 ≤ 4611686018427387904) :
    Calls Try.prog 35 #[.slice A l.length c, .int .i64 j0] w (RetMut w A c T 3 l.length ((Fix.marks l.length j0).flatMap Fix.enc) (.int .i64 (j0 + 3 * (l.length : Int)))) := by
  refine calls_of_run (vs := [_, _]) (L := [(0, _), (1, _)]) (n := 34) (F := (A.map (·.block)).toList) (H := [_]) Try.func35 rfl rfl rfl rfl (HOk.borrowRow hrow) ?_
  refine Run.seq ?_
  refine Run.quiet (by intro h; cases h) ?_
  refine QOps.st rfl rfl (Yv.assign rfl).yl ?_
  refine QOps.nil ?_
  refine Run.seq ?_
  refine Run.seq ?_
  refine Run.quiet (by intro h; cases h) ?_
  refine QOps.st rfl rfl (Yv.assign rfl).yl ?_
  refine QOps.nil ?_
  refine Run.block ?_
  refine Run.loop (S := Nat × Int × List Fix) (fun s => match s with | (k, j, o) => k ≤ l.length ∧ o.length = l.length ∧ j = j0 + 3 * (k : Int) ∧ ∀ i, i < k → nth o i = Fix.mark j0 i) (fun s => match s with | (k, j, o) => [(0, .slice A l.length c), (1, .int .i64 j), (5, .int .i64 (k : Int))]) (fun s => match s with | (k, j, o) => [.row A c T 3 l.length (o.flatMap Fix.enc)]) (fun s => match s with | (k, j, o) => l.length - k) (0, j0, l) ?_ (SubE.cons rfl (SubE.cons rfl (SubE.cons rfl (SubE.nil _)))) (List.Sublist.refl _) ?_
  · exact ⟨by omega, rfl, by simp, fun i hi => by omega⟩
  · rintro ⟨k, j, o⟩ ⟨hk, hol, hj, heq⟩
    show Run _ _ _ _ _ [(0, .slice A l.length c), (1, .int .i64 j), (5, .int .i64 (k : Int))] [.row A c T 3 l.length (o.flatMap Fix.enc)] _
    refine Run.seq ?_
    refine Run.seq ?_
    refine Run.quiet (by intro h; cases h) ?_
    refine QOps.st rfl rfl (Yv.move rfl).yl ?_
    refine QOps.st rfl rfl (Yv.move rfl).yl ?_
    refine QOps.st rfl rfl (Yv.lenS el25s rfl).yl ?_
    refine QOps.st rfl rfl (Yv.lss rfl rfl).yl ?_
    refine QOps.nil ?_
    refine Run.cond rfl (fun hc1 => ?_) (fun hc1 => ?_)
    · try replace hc1 := of_decide_eq_true hc1
      refine Run.skip ?_
      refine Run.seq ?_
      refine Run.block ?_
      refine Run.seq ?_
      refine Run.ops ?_
      refine SOps.st rfl rfl (Yv.move rfl).yl ?_
      refine SOps.st rfl rfl (Yv.move rfl).yl ?_
      refine SOps.st rfl rfl (Yv.move rfl).yl ?_
      refine SOps.st rfl rfl (Yv.indexAddr k el25 rfl rfl rfl (Rd.row (i := 0) rfl) (by omega)).yl ?_
      refine SOps.st rfl rfl (Yv.fieldAddr fld49_0 rfl).yl ?_
      refine SOps.one rfl (One.storeE (i := 0) (k := k) (f := 0) (H' := [_]) (e := ⟨j, (nth o k).place, (nth o k).error⟩) lay3 rfl rfl rfl Fix.len rfl (by decide) rfl rfl rfl (by first | omega | (simp; omega)) (by first | omega | (simp; omega)) rfl ?_)
      refine SOps.nil ?_
      refine Run.seq ?_
      refine Run.quiet (by intro h; cases h) ?_
      refine QOps.st rfl rfl (Yv.move rfl).yl ?_
      refine QOps.st rfl rfl (Yv.add rfl rfl (by omega)).yl ?_
      refine QOps.st rfl rfl (Yv.assign rfl).yl ?_
      refine QOps.nil ?_
      refine Run.seq ?_
      refine Run.ops ?_
      refine SOps.st rfl rfl (Yv.move rfl).yl ?_
      refine SOps.st rfl rfl (Yv.move rfl).yl ?_
      refine SOps.st rfl rfl (Yv.move rfl).yl ?_
      refine SOps.st rfl rfl (Yv.indexAddr k el25 rfl rfl rfl (Rd.row (i := 0) rfl) (by omega)).yl ?_
      refine SOps.st rfl rfl (Yv.fieldAddr fld49_1 rfl).yl ?_
      refine SOps.one rfl (One.storeE (i := 0) (k := k) (f := 1) (H' := [_]) (e := ⟨j, j + 1, (nth o k).error⟩) lay3 rfl rfl rfl Fix.len rfl (by decide) (by rw [nth_set_self (by first | omega | (simp; omega))]; rfl) rfl rfl (by first | omega | (simp; omega)) (by first | omega | (simp; omega)) rfl ?_)
      refine SOps.nil ?_
      refine Run.seq ?_
      refine Run.quiet (by intro h; cases h) ?_
      refine QOps.st rfl rfl (Yv.move rfl).yl ?_
      refine QOps.st rfl rfl (Yv.add rfl rfl (by omega)).yl ?_
      refine QOps.st rfl rfl (Yv.assign rfl).yl ?_
      refine QOps.nil ?_
      refine Run.seq ?_
      refine Run.ops ?_
      refine SOps.st rfl rfl (Yv.move rfl).yl ?_
      refine SOps.st rfl rfl (Yv.move rfl).yl ?_
      refine SOps.st rfl rfl (Yv.move rfl).yl ?_
      refine SOps.st rfl rfl (Yv.indexAddr k el25 rfl rfl rfl (Rd.row (i := 0) rfl) (by omega)).yl ?_
      refine SOps.st rfl rfl (Yv.fieldAddr fld49_2 rfl).yl ?_
      refine SOps.one rfl (One.storeE (i := 0) (k := k) (f := 2) (H' := [_]) (e := ⟨j, j + 1, j + 1 + 1⟩) lay3 rfl rfl rfl Fix.len rfl (by decide) (by rw [nth_set_self (by first | omega | (simp; omega))]; rfl) rfl rfl (by first | omega | (simp; omega)) (by first | omega | (simp; omega)) rfl ?_)
      refine SOps.nil ?_
      refine Run.quiet (by intro h; cases h) ?_
      refine QOps.st rfl rfl (Yv.move rfl).yl ?_
      refine QOps.st rfl rfl (Yv.add rfl rfl (by omega)).yl ?_
      refine QOps.st rfl rfl (Yv.assign rfl).yl ?_
      refine QOps.nil ?_
      refine Run.quiet (by intro h; cases h) ?_
      refine QOps.st rfl rfl (Yv.move rfl).yl ?_
      refine QOps.st rfl rfl (Yv.succN rfl rfl (by omega)).yl ?_
      refine QOps.st rfl rfl (Yv.assign rfl).yl ?_
      refine QOps.nil ?_
      refine ⟨(k + 1, _, _), ?_, ?_, (SubE.cons rfl (SubE.cons rfl (SubE.cons rfl (SubE.nil _)))), (List.Sublist.refl _)⟩
      · exact ⟨by omega, by simpa using hol, by omega, all_succ (fun i hi => by simp only [List.set_set]; rw [nth_set_ne (by omega)]; exact heq i hi) (by simp only [List.set_set]; rw [nth_set_self (by omega), hj]; simp [Fix.mark]; omega)⟩
      · first | omega | (dsimp only; omega)
    · try replace hc1 := of_decide_eq_false hc1
      refine Run.exit ?_
      refine Run.seq ?_
      refine Run.quiet (by intro h; cases h) ?_
      refine QOps.st rfl rfl (Yv.move rfl).yl ?_
      refine QOps.st rfl rfl (Yv.assign rfl).yl ?_
      refine QOps.nil ?_
      refine Run.ret ?_
      obtain rfl : k = l.length := by omega
      have hoe : o = Fix.marks l.length j0 := eq_of_nth (by rw [hol, Fix.marks_len]) (fun i hi => by rw [Fix.marks_len] at hi; rw [Fix.marks_nth hi]; exact heq i hi)
      subst hoe
      refine retQ.of (.inr rfl) rfl (.tmp rfl .nil) (fun w' hw' => ?_)
      exact ⟨by rw [hj]; rfl, hw'.bel, hw'.ent _ (List.mem_of_getElem? (i := 0) rfl)⟩

theorem heldFixS_spec {w : World} {A : Option Addr} {c m : Nat} {j0 : Int} (hs : Sl w 3 A m c ((Fix.marks m j0).flatMap Fix.enc)) (hl : m ≤ 1048576) (h1 : 0 ≤ j0) (h2 : j0 ≤ 4611686018427387904) :
    Calls Try.prog 36 #[.slice A m c, .int .i64 j0] w (RetB w (.int .i64 (j0 + 3 * (m : Int)))) := by
  have hml := Fix.marks_len m j0
  refine calls_of_run (vs := [_, _]) (L := [(0, _), (1, _)]) (n := 40) (F := []) (H := []) Try.func36 rfl rfl rfl rfl (HOk.start _) ?_
  refine Run.seq ?_
  refine Run.quiet (by intro h; cases h) ?_
  refine QOps.st rfl rfl (Yv.assign rfl).yl ?_
  refine QOps.nil ?_
  refine Run.seq ?_
  refine Run.seq ?_
  refine Run.quiet (by intro h; cases h) ?_
  refine QOps.st rfl rfl (Yv.assign rfl).yl ?_
  refine QOps.nil ?_
  refine Run.block ?_
  refine Run.loop (S := Nat × Int) (fun s => match s with | (k, j) => k ≤ m ∧ j = j0 + 3 * (k : Int)) (fun s => match s with | (k, j) => [(0, .slice A m c), (1, .int .i64 j), (5, .int .i64 (k : Int))]) (fun s => match s with | (k, j) => []) (fun s => match s with | (k, j) => m - k) (0, j0) ?_ (SubE.cons rfl (SubE.cons rfl (SubE.cons rfl (SubE.nil _)))) (List.Sublist.refl _) ?_
  · exact ⟨by omega, by simp⟩
  · rintro ⟨k, j⟩ ⟨hk, hj⟩
    show Run _ _ _ _ _ [(0, .slice A m c), (1, .int .i64 j), (5, .int .i64 (k : Int))] [] _
    refine Run.seq ?_
    refine Run.seq ?_
    refine Run.quiet (by intro h; cases h) ?_
    refine QOps.st rfl rfl (Yv.move rfl).yl ?_
    refine QOps.st rfl rfl (Yv.move rfl).yl ?_
    refine QOps.st rfl rfl (Yv.lenS el25s rfl).yl ?_
    refine QOps.st rfl rfl (Yv.lss rfl rfl).yl ?_
    refine QOps.nil ?_
    refine Run.cond rfl (fun hc1 => ?_) (fun hc1 => ?_)
    · try replace hc1 := of_decide_eq_true hc1
      refine Run.skip ?_
      refine Run.seq ?_
      refine Run.block ?_
      refine Run.seq ?_
      refine Run.seq ?_
      refine Run.quiet (by intro h; cases h) ?_
      refine QOps.st rfl rfl (Yv.move rfl).yl ?_
      refine QOps.st rfl rfl (Yv.move rfl).yl ?_
      refine QOps.st rfl rfl (Yv.indexAddr k el25 rfl rfl rfl (Rd.arg hs) (by omega)).yl ?_
      refine QOps.st rfl rfl (Yv.fieldAddr fld49_0 rfl).yl ?_
      refine QOps.st rfl rfl (Yv.loadF lay3 rfl Fix.len (Rd.arg hs) (by omega) (by decide) rfl).yl ?_
      refine QOps.st rfl rfl (Yv.move rfl).yl ?_
      refine QOps.st rfl rfl (Yv.neI rfl rfl).yl ?_
      refine QOps.nil ?_
      refine Run.cond rfl (fun hc2 => ?_) (fun hc2 => ?_)
      · exfalso
        simp [Fix.marks_nth (show k < m by omega), Fix.mark] at hc2; try omega
      · try replace hc2 := of_decide_eq_false hc2
        refine Run.skip ?_
        refine Run.seq ?_
        refine Run.quiet (by intro h; cases h) ?_
        refine QOps.st rfl rfl (Yv.move rfl).yl ?_
        refine QOps.st rfl rfl (Yv.add rfl rfl (by omega)).yl ?_
        refine QOps.st rfl rfl (Yv.assign rfl).yl ?_
        refine QOps.nil ?_
        refine Run.seq ?_
        refine Run.seq ?_
        refine Run.quiet (by intro h; cases h) ?_
        refine QOps.st rfl rfl (Yv.move rfl).yl ?_
        refine QOps.st rfl rfl (Yv.move rfl).yl ?_
        refine QOps.st rfl rfl (Yv.indexAddr k el25 rfl rfl rfl (Rd.arg hs) (by omega)).yl ?_
        refine QOps.st rfl rfl (Yv.fieldAddr fld49_1 rfl).yl ?_
        refine QOps.st rfl rfl (Yv.loadF lay3 rfl Fix.len (Rd.arg hs) (by omega) (by decide) rfl).yl ?_
        refine QOps.st rfl rfl (Yv.move rfl).yl ?_
        refine QOps.st rfl rfl (Yv.neI rfl rfl).yl ?_
        refine QOps.nil ?_
        refine Run.cond rfl (fun hc3 => ?_) (fun hc3 => ?_)
        · exfalso
          simp [Fix.marks_nth (show k < m by omega), Fix.mark] at hc3; try omega
        · try replace hc3 := of_decide_eq_false hc3
          refine Run.skip ?_
          refine Run.seq ?_
          refine Run.quiet (by intro h; cases h) ?_
          refine QOps.st rfl rfl (Yv.move rfl).yl ?_
          refine QOps.st rfl rfl (Yv.add rfl rfl (by omega)).yl ?_
          refine QOps.st rfl rfl (Yv.assign rfl).yl ?_
          refine QOps.nil ?_
          refine Run.seq ?_
          refine Run.seq ?_
          refine Run.quiet (by intro h; cases h) ?_
          refine QOps.st rfl rfl (Yv.move rfl).yl ?_
          refine QOps.st rfl rfl (Yv.move rfl).yl ?_
          refine QOps.st rfl rfl (Yv.indexAddr k el25 rfl rfl rfl (Rd.arg hs) (by omega)).yl ?_
          refine QOps.st rfl rfl (Yv.fieldAddr fld49_2 rfl).yl ?_
          refine QOps.st rfl rfl (Yv.loadF lay3 rfl Fix.len (Rd.arg hs) (by omega) (by decide) rfl).yl ?_
          refine QOps.st rfl rfl (Yv.move rfl).yl ?_
          refine QOps.st rfl rfl (Yv.neI rfl rfl).yl ?_
          refine QOps.nil ?_
          refine Run.cond rfl (fun hc4 => ?_) (fun hc4 => ?_)
          · exfalso
            simp [Fix.marks_nth (show k < m by omega), Fix.mark] at hc4; try omega
          · try replace hc4 := of_decide_eq_false hc4
            refine Run.skip ?_
            refine Run.quiet (by intro h; cases h) ?_
            refine QOps.st rfl rfl (Yv.move rfl).yl ?_
            refine QOps.st rfl rfl (Yv.add rfl rfl (by omega)).yl ?_
            refine QOps.st rfl rfl (Yv.assign rfl).yl ?_
            refine QOps.nil ?_
            refine Run.quiet (by intro h; cases h) ?_
            refine QOps.st rfl rfl (Yv.move rfl).yl ?_
            refine QOps.st rfl rfl (Yv.succN rfl rfl (by omega)).yl ?_
            refine QOps.st rfl rfl (Yv.assign rfl).yl ?_
            refine QOps.nil ?_
            refine ⟨(k + 1, _), ?_, ?_, (SubE.cons rfl (SubE.cons rfl (SubE.cons rfl (SubE.nil _)))), (List.Sublist.refl _)⟩
            · exact ⟨by omega, by omega⟩
            · first | omega | (dsimp only; omega)
    · try replace hc1 := of_decide_eq_false hc1
      refine Run.exit ?_
      refine Run.seq ?_
      refine Run.quiet (by intro h; cases h) ?_
      refine QOps.st rfl rfl (Yv.move rfl).yl ?_
      refine QOps.st rfl rfl (Yv.assign rfl).yl ?_
      refine QOps.nil ?_
      refine Run.ret ?_
      obtain rfl : k = m := by omega
      refine retQ.of (.inr rfl) rfl (.tmp rfl .nil) (fun w' hw' => ?_)
      refine ⟨?_, hw'.bel.below⟩
      refine retI_eq ?_
      exact hj

end Go.Proofs.Ytliealfihglkmaa
