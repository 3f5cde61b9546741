/- Rules of a drought: the laws' own helper functions over them. Conditions: none. -/
import Derived.Test.YtkkmmbogeeopaaaTab
import Derived.Test.YtkkmmbogeeopaaaBase
namespace Go.Proofs.Ytkkmmbogeeopaaa
open Go.RowKit
set_option maxRecDepth 100000
structure Rule where
  below : Int
  draught : Int
  half : Bool
instance : Inhabited Rule := ⟨⟨0, 0, false⟩⟩
def Rule.enc (f : Rule) : List Value := [.int .i64 f.below, .int .i64 f.draught, .bool f.half]
theorem Rule.len (f : Rule) : f.enc.length = 3 := rfl
theorem Rule.one (f : Rule) : f.enc.all Value.oneCell' = true := rfl

theorem toDroughtRule_spec {w : World} {f : Rule} : Calls Try.prog 88 #[.agg f.enc.toArray] w (RetB w (.agg f.enc.toArray)) := by
  refine calls_of_run (vs := [_]) (L := [(0, _)]) (n := 14) (F := []) (H := []) Try.func88 rfl rfl rfl rfl (HOk.start _) ?_
  refine Run.seq ?_
  refine Run.ops ?_
  refine SOps.one rfl (One.box (cs := [_, _, _]) rfl rfl rfl (fun b1 => ?_))
  refine SOps.one rfl (One.alloc rfl zero74 (fun b2 => ?_))
  refine SOps.nil ?_
  refine Run.seq ?_
  refine Run.ops ?_
  refine SOps.one rfl (One.alloc rfl zero74 (fun b3 => ?_))
  refine SOps.nil ?_
  refine Run.seq ?_
  refine Run.ops ?_
  refine SOps.st rfl rfl (Yv.fieldAddr fld106_0 rfl).yl ?_
  refine SOps.st rfl rfl (Yv.loadB (i := 2) lay3 rfl rfl rfl rfl).yl ?_
  refine SOps.st rfl rfl (Yv.fieldAddr fld74_0 rfl).yl ?_
  refine SOps.one rfl (One.store (i := 0) (off := 0) (vs := [_]) (cs' := [_, _, _]) (H' := [_, _, _]) lay3 rfl rfl rfl rfl rfl rfl rfl rfl rfl rfl ?_)
  refine SOps.nil ?_
  refine Run.seq ?_
  refine Run.ops ?_
  refine SOps.st rfl rfl (Yv.fieldAddr fld106_1 rfl).yl ?_
  refine SOps.st rfl rfl (Yv.loadB (i := 2) lay3 rfl rfl rfl rfl).yl ?_
  refine SOps.st rfl rfl (Yv.fieldAddr fld74_1 rfl).yl ?_
  refine SOps.one rfl (One.store (i := 0) (off := 1) (vs := [_]) (cs' := [_, _, _]) (H' := [_, _, _]) lay3 rfl rfl rfl rfl rfl rfl rfl rfl rfl rfl ?_)
  refine SOps.nil ?_
  refine Run.seq ?_
  refine Run.ops ?_
  refine SOps.st rfl rfl (Yv.fieldAddr fld106_2 rfl).yl ?_
  refine SOps.st rfl rfl (Yv.loadB (i := 2) lay4 rfl rfl rfl rfl).yl ?_
  refine SOps.st rfl rfl (Yv.fieldAddr fld74_2 rfl).yl ?_
  refine SOps.one rfl (One.store (i := 0) (off := 2) (vs := [_]) (cs' := [_, _, _]) (H' := [_, _, _]) lay4 rfl rfl rfl rfl rfl rfl rfl rfl rfl rfl ?_)
  refine SOps.nil ?_
  refine Run.seq ?_
  refine Run.ops ?_
  refine SOps.st rfl rfl (Yv.loadBs (i := 0) lay74 rfl rfl rfl rfl).yl ?_
  refine SOps.one rfl (One.store (i := 1) (off := 0) (vs := [_, _, _]) (cs' := [_, _, _]) (H' := [_, _, _]) lay74 rfl rfl rfl rfl rfl rfl rfl rfl rfl rfl ?_)
  refine SOps.nil ?_
  refine Run.ret ?_
  refine retQ.of (.inr rfl) rfl (.cells (i := 1) rfl lay74 rfl rfl .nil) (fun w' hw' => ?_)
  refine ⟨?_, hw'.bel.below⟩
  exact rfl

theorem toDroughtRuleS_spec {w : World} {A : Option Addr} {c : Nat} {l : List Rule} (hs : Sl w 3 A l.length c (l.flatMap Rule.enc)) (hb : 24 * l.length ≤ 281474976710656) :
    Calls Try.prog 49 #[.slice A l.length c] w (RetRow w 74 3 l.length (l.flatMap Rule.enc) (fun v => v)) := by
  refine calls_of_run (vs := [_]) (L := [(0, _)]) (n := 23) (F := []) (H := []) Try.func49 rfl rfl rfl rfl (HOk.start _) ?_
  refine Run.seq ?_
  refine Run.quiet (by intro h; cases h) ?_
  refine QOps.st rfl rfl (Yv.assign rfl).yl ?_
  refine QOps.nil ?_
  refine Run.seq ?_
  refine Run.ops ?_
  refine SOps.st rfl rfl (Yv.move rfl).yl ?_
  refine SOps.st rfl rfl (Yv.lenS el22s rfl).yl ?_
  refine SOps.one rfl (One.make (enc := Rule.enc) (m := l.length) default rfl el27 zero74 rfl Rule.len (by decide) rfl rfl (by omega) (by omega) (fun b1 => ?_))
  refine SOps.st rfl rfl (Yv.assign rfl).yl ?_
  refine SOps.nil ?_
  refine Run.seq ?_
  refine Run.seq ?_
  refine Run.quiet (by intro h; cases h) ?_
  refine QOps.st rfl rfl (Yv.assign rfl).yl ?_
  refine QOps.nil ?_
  refine Run.block ?_
  refine Run.loop (S := Nat × List Rule) (fun s => match s with | (k, o) => k ≤ l.length ∧ o.length = l.length ∧ ∀ i, i < k → nth o i = nth l i) (fun s => match s with | (k, o) => [(0, .slice A l.length c), (3, .slice (some ⟨b1, 0, none⟩) l.length l.length), (4, .int .i64 (k : Int))]) (fun s => match s with | (k, o) => [.row (some ⟨b1, 0, none⟩) l.length 74 3 l.length (o.flatMap Rule.enc)]) (fun s => match s with | (k, o) => l.length - k) (0, List.replicate l.length default) ?_ (SubE.cons rfl (SubE.cons rfl (SubE.cons rfl (SubE.nil _)))) (List.Sublist.refl _) ?_
  · exact ⟨by omega, by simp, fun i hi => by omega⟩
  · rintro ⟨k, o⟩ ⟨hk, hol, heq⟩
    show Run _ _ _ _ _ [(0, .slice A l.length c), (3, .slice (some ⟨b1, 0, none⟩) l.length l.length), (4, .int .i64 (k : Int))] [.row (some ⟨b1, 0, none⟩) l.length 74 3 l.length (o.flatMap Rule.enc)] _
    refine Run.seq ?_
    refine Run.seq ?_
    refine Run.quiet (by intro h; cases h) ?_
    refine QOps.st rfl rfl (Yv.move rfl).yl ?_
    refine QOps.st rfl rfl (Yv.move rfl).yl ?_
    refine QOps.st rfl rfl (Yv.lenS el22s rfl).yl ?_
    refine QOps.st rfl rfl (Yv.lss rfl rfl).yl ?_
    refine QOps.nil ?_
    refine Run.cond rfl (fun hc1 => ?_) (fun hc1 => ?_)
    · try replace hc1 := of_decide_eq_true hc1
      refine Run.skip ?_
      refine Run.seq ?_
      refine Run.block ?_
      refine Run.ops ?_
      refine SOps.st rfl rfl (Yv.move rfl).yl ?_
      refine SOps.st rfl rfl (Yv.move rfl).yl ?_
      refine SOps.st rfl rfl (Yv.move rfl).yl ?_
      refine SOps.st rfl rfl (Yv.move rfl).yl ?_
      refine SOps.st rfl rfl (Yv.indexAddr k el22 rfl rfl rfl (Rd.arg hs) (by omega)).yl ?_
      refine SOps.st rfl rfl (Yv.loadEs lay106 rfl Rule.len (Rd.arg hs) (by first | omega | (simp; omega)) (by decide)).yl ?_
      refine SOps.st rfl rfl (Yl.call callable88 (.cons rfl (.nil)) (fun w' hw' => toDroughtRule_spec)) ?_
      refine SOps.st rfl rfl (Yv.indexAddr k el27 rfl rfl rfl (Rd.row (i := 0) rfl) (by omega)).yl ?_
      refine SOps.one rfl (One.storeE (i := 0) (k := k) (f := 0) (H' := [_]) (e := nth l k) lay74 rfl rfl rfl Rule.len rfl (by decide) rfl rfl rfl hol (by omega) rfl ?_)
      refine SOps.nil ?_
      refine Run.quiet (by intro h; cases h) ?_
      refine QOps.st rfl rfl (Yv.move rfl).yl ?_
      refine QOps.st rfl rfl (Yv.succN rfl rfl (by omega)).yl ?_
      refine QOps.st rfl rfl (Yv.assign rfl).yl ?_
      refine QOps.nil ?_
      refine ⟨(k + 1, _), ?_, ?_, (SubE.cons rfl (SubE.cons rfl (SubE.cons rfl (SubE.nil _)))), (List.Sublist.refl _)⟩
      · exact ⟨by omega, by simpa using hol, all_succ (fun i hi => by rw [nth_set_ne (by omega)]; exact heq i hi) (nth_set_self (by omega))⟩
      · first | omega | (dsimp only; omega)
    · try replace hc1 := of_decide_eq_false hc1
      refine Run.exit ?_
      refine Run.seq ?_
      refine Run.quiet (by intro h; cases h) ?_
      refine QOps.st rfl rfl (Yv.move rfl).yl ?_
      refine QOps.st rfl rfl (Yv.assign rfl).yl ?_
      refine QOps.nil ?_
      refine Run.ret ?_
      obtain rfl : k = l.length := by omega
      obtain rfl := eq_of_nth hol heq
      refine retQ.of (.inr rfl) rfl (.tmp rfl .nil) (fun w' hw' => ?_)
      exact ⟨_, _, rfl, hw'.bel.below, hw'.ent _ (List.mem_of_getElem? (i := 0) rfl), fun g hg => (hw'.own _ (List.mem_of_getElem? (i := 0) rfl) g hg).elim id (by simp)⟩

theorem szDroughtRuleS_spec {w : World} {A : Option Addr} {c n : Nat} {left : Int} (hn : n ≤ 4611686018427387904) (h1 : 0 ≤ left) (h2 : left ≤ 4611686018427387904) :
    Calls Try.prog 47 #[.slice A n c, .int .i64 left] w (RetB w (.int .i64 (if left < (n : Int) then -1 else left - n))) := by
  refine calls_of_run (vs := [_, _]) (L := [(0, _), (1, _)]) (n := 12) (F := []) (H := []) Try.func47 rfl rfl rfl rfl (HOk.start _) ?_
  refine Run.seq ?_
  refine Run.quiet (by intro h; cases h) ?_
  refine QOps.st rfl rfl (Yv.assign rfl).yl ?_
  refine QOps.nil ?_
  refine Run.seq ?_
  refine Run.quiet (by intro h; cases h) ?_
  refine QOps.st rfl rfl (Yv.move rfl).yl ?_
  refine QOps.st rfl rfl (Yv.move rfl).yl ?_
  refine QOps.st rfl rfl (Yv.lenS el22s rfl).yl ?_
  refine QOps.st rfl rfl (Yv.sub rfl rfl (by omega)).yl ?_
  refine QOps.st rfl rfl (Yv.assign rfl).yl ?_
  refine QOps.nil ?_
  refine Run.seq ?_
  refine Run.seq ?_
  refine Run.quiet (by intro h; cases h) ?_
  refine QOps.st rfl rfl (Yv.move rfl).yl ?_
  refine QOps.st rfl rfl (Yv.lss rfl rfl).yl ?_
  refine QOps.nil ?_
  refine Run.cond rfl (fun hc1 => ?_) (fun hc1 => ?_)
  · try replace hc1 := of_decide_eq_true hc1
    refine Run.seq ?_
    refine Run.quiet (by intro h; cases h) ?_
    refine QOps.st rfl rfl (Yv.assign rfl).yl ?_
    refine QOps.nil ?_
    refine Run.ret ?_
    refine retQ.of (.inr rfl) rfl (.tmp rfl .nil) (fun w' hw' => ?_)
    refine ⟨?_, hw'.bel.below⟩
    refine retI_eq ?_
    rw [if_pos (by omega)]
  · try replace hc1 := of_decide_eq_false hc1
    refine Run.skip ?_
    refine Run.seq ?_
    refine Run.quiet (by intro h; cases h) ?_
    refine QOps.st rfl rfl (Yv.move rfl).yl ?_
    refine QOps.st rfl rfl (Yv.assign rfl).yl ?_
    refine QOps.nil ?_
    refine Run.ret ?_
    refine retQ.of (.inr rfl) rfl (.tmp rfl .nil) (fun w' hw' => ?_)
    refine ⟨?_, hw'.bel.below⟩
    refine retI_eq ?_
    rw [if_neg (by omega)]

theorem eqDroughtRule_spec {w : World} {f : Rule} : Calls Try.prog 89 #[.agg f.enc.toArray, .agg f.enc.toArray] w (RetB w (.bool true)) := by
  refine calls_of_run (vs := [_, _]) (L := [(0, _), (1, _)]) (n := 20) (F := []) (H := []) Try.func89 rfl rfl rfl rfl (HOk.start _) ?_
  refine Run.seq ?_
  refine Run.ops ?_
  refine SOps.one rfl (One.box (cs := [_, _, _]) rfl rfl rfl (fun b1 => ?_))
  refine SOps.one rfl (One.box (cs := [_, _, _]) rfl rfl rfl (fun b2 => ?_))
  refine SOps.st rfl rfl (Yv.assign rfl).yl ?_
  refine SOps.nil ?_
  refine Run.seq ?_
  refine Run.seq ?_
  refine Run.quiet (by intro h; cases h) ?_
  refine QOps.st rfl rfl (Yv.fieldAddr fld74_0 rfl).yl ?_
  refine QOps.st rfl rfl (Yv.loadB (i := 1) lay3 rfl rfl rfl rfl).yl ?_
  refine QOps.st rfl rfl (Yv.fieldAddr fld74_0 rfl).yl ?_
  refine QOps.st rfl rfl (Yv.loadB (i := 0) lay3 rfl rfl rfl rfl).yl ?_
  refine QOps.st rfl rfl (Yv.neI rfl rfl).yl ?_
  refine QOps.nil ?_
  refine Run.cond rfl (fun hc1 => ?_) (fun hc1 => ?_)
  · exfalso
    simp at hc1
  · try replace hc1 := of_decide_eq_false hc1
    refine Run.skip ?_
    refine Run.seq ?_
    refine Run.seq ?_
    refine Run.quiet (by intro h; cases h) ?_
    refine QOps.st rfl rfl (Yv.fieldAddr fld74_1 rfl).yl ?_
    refine QOps.st rfl rfl (Yv.loadB (i := 1) lay3 rfl rfl rfl rfl).yl ?_
    refine QOps.st rfl rfl (Yv.fieldAddr fld74_1 rfl).yl ?_
    refine QOps.st rfl rfl (Yv.loadB (i := 0) lay3 rfl rfl rfl rfl).yl ?_
    refine QOps.st rfl rfl (Yv.neI rfl rfl).yl ?_
    refine QOps.nil ?_
    refine Run.cond rfl (fun hc2 => ?_) (fun hc2 => ?_)
    · exfalso
      simp at hc2
    · try replace hc2 := of_decide_eq_false hc2
      refine Run.skip ?_
      refine Run.seq ?_
      refine Run.seq ?_
      refine Run.quiet (by intro h; cases h) ?_
      refine QOps.st rfl rfl (Yv.fieldAddr fld74_2 rfl).yl ?_
      refine QOps.st rfl rfl (Yv.loadB (i := 1) lay4 rfl rfl rfl rfl).yl ?_
      refine QOps.st rfl rfl (Yv.fieldAddr fld74_2 rfl).yl ?_
      refine QOps.st rfl rfl (Yv.loadB (i := 0) lay4 rfl rfl rfl rfl).yl ?_
      refine QOps.st rfl rfl (Yv.neB bool4 rfl rfl).yl ?_
      refine QOps.nil ?_
      refine Run.cond rfl (fun hc3 => ?_) (fun hc3 => ?_)
      · exfalso
        simp at hc3
      · try replace hc3 := of_decide_eq_false hc3
        refine Run.skip ?_
        refine Run.seq ?_
        refine Run.quiet (by intro h; cases h) ?_
        refine QOps.st rfl rfl (Yv.assign rfl).yl ?_
        refine QOps.nil ?_
        refine Run.ret ?_
        refine retQ.of (.inr rfl) rfl (.tmp rfl .nil) (fun w' hw' => ?_)
        refine ⟨?_, hw'.bel.below⟩
        exact rfl

theorem eqDroughtRuleS_spec {w : World} {A A2 : Option Addr} {c c2 : Nat} {l : List Rule} (hs : Sl w 3 A l.length c (l.flatMap Rule.enc)) (hs2 : Sl w 3 A2 l.length c2 (l.flatMap Rule.enc)) :
    Calls Try.prog 52 #[.slice A l.length c, .slice A2 l.length c2] w (RetB w (.bool true)) := by
  have hmx := Sl.lenle hs
  refine calls_of_run (vs := [_, _]) (L := [(0, _), (1, _)]) (n := 27) (F := []) (H := []) Try.func52 rfl rfl rfl rfl (HOk.start _) ?_
  refine Run.seq ?_
  refine Run.quiet (by intro h; cases h) ?_
  refine QOps.st rfl rfl (Yv.assign rfl).yl ?_
  refine QOps.nil ?_
  refine Run.seq ?_
  refine Run.seq ?_
  refine Run.quiet (by intro h; cases h) ?_
  refine QOps.st rfl rfl (Yv.move rfl).yl ?_
  refine QOps.st rfl rfl (Yv.lenS el27s rfl).yl ?_
  refine QOps.st rfl rfl (Yv.move rfl).yl ?_
  refine QOps.st rfl rfl (Yv.lenS el27s rfl).yl ?_
  refine QOps.st rfl rfl (Yv.neI rfl rfl).yl ?_
  refine QOps.nil ?_
  refine Run.cond rfl (fun hc1 => ?_) (fun hc1 => ?_)
  · exfalso
    simp at hc1
  · try replace hc1 := of_decide_eq_false hc1
    refine Run.skip ?_
    refine Run.seq ?_
    refine Run.seq ?_
    refine Run.quiet (by intro h; cases h) ?_
    refine QOps.st rfl rfl (Yv.assign rfl).yl ?_
    refine QOps.nil ?_
    refine Run.block ?_
    refine Run.loop (S := Nat) (fun s => match s with | k => k ≤ l.length) (fun s => match s with | k => [(0, .slice A l.length c), (1, .slice A2 l.length c2), (5, .int .i64 (k : Int))]) (fun s => match s with | k => []) (fun s => match s with | k => l.length - k) 0 ?_ (SubE.cons rfl (SubE.cons rfl (SubE.cons rfl (SubE.nil _)))) (List.Sublist.refl _) ?_
    · exact Nat.zero_le _
    · rintro k hk
      show Run _ _ _ _ _ [(0, .slice A l.length c), (1, .slice A2 l.length c2), (5, .int .i64 (k : Int))] [] _
      refine Run.seq ?_
      refine Run.seq ?_
      refine Run.quiet (by intro h; cases h) ?_
      refine QOps.st rfl rfl (Yv.move rfl).yl ?_
      refine QOps.st rfl rfl (Yv.move rfl).yl ?_
      refine QOps.st rfl rfl (Yv.lenS el27s rfl).yl ?_
      refine QOps.st rfl rfl (Yv.lss rfl rfl).yl ?_
      refine QOps.nil ?_
      refine Run.cond rfl (fun hc2 => ?_) (fun hc2 => ?_)
      · try replace hc2 := of_decide_eq_true hc2
        refine Run.skip ?_
        refine Run.seq ?_
        refine Run.block ?_
        refine Run.seq ?_
        refine Run.quiet (fun _ => ⟨by kernel_rfl, by kernel_rfl⟩) ?_
        refine QOps.st rfl rfl (Yv.move rfl).yl ?_
        refine QOps.st rfl rfl (Yv.move rfl).yl ?_
        refine QOps.st rfl rfl (Yv.indexAddr k el27 rfl rfl rfl (Rd.arg hs) (by omega)).yl ?_
        refine QOps.st rfl rfl (Yv.loadEs lay74 rfl Rule.len (Rd.arg hs) (by first | omega | (simp; omega)) (by decide)).yl ?_
        refine QOps.st rfl rfl (Yv.move rfl).yl ?_
        refine QOps.st rfl rfl (Yv.move rfl).yl ?_
        refine QOps.st rfl rfl (Yv.indexAddr k el27 rfl rfl rfl (Rd.arg hs2) (by omega)).yl ?_
        refine QOps.st rfl rfl (Yv.loadEs lay74 rfl Rule.len (Rd.arg hs2) (by first | omega | (simp; omega)) (by decide)).yl ?_
        refine QOps.st rfl rfl (Yl.call callable89 (.cons rfl (.cons rfl (.nil))) (fun w' hw' => eqDroughtRule_spec)) ?_
        refine QOps.st rfl rfl (Yv.not rfl).yl ?_
        refine QOps.nil ?_
        refine Run.cond rfl (fun hc3 => ?_) (fun hc3 => ?_)
        · exfalso
          simp at hc3
        · try replace hc3 := of_decide_eq_false hc3
          refine Run.skip ?_
          refine Run.quiet (by intro h; cases h) ?_
          refine QOps.st rfl rfl (Yv.move rfl).yl ?_
          refine QOps.st rfl rfl (Yv.succN rfl rfl (by omega)).yl ?_
          refine QOps.st rfl rfl (Yv.assign rfl).yl ?_
          refine QOps.nil ?_
          refine ⟨k + 1, ?_, ?_, (SubE.cons rfl (SubE.cons rfl (SubE.cons rfl (SubE.nil _)))), (List.Sublist.refl _)⟩
          · show k + 1 ≤ _; omega
          · first | omega | (dsimp only; omega)
      · try replace hc2 := of_decide_eq_false hc2
        refine Run.exit ?_
        refine Run.seq ?_
        refine Run.quiet (by intro h; cases h) ?_
        refine QOps.st rfl rfl (Yv.assign rfl).yl ?_
        refine QOps.nil ?_
        refine Run.ret ?_
        refine retQ.of (.inr rfl) rfl (.tmp rfl .nil) (fun w' hw' => ?_)
        refine ⟨?_, hw'.bel.below⟩
        exact rfl

theorem toDrought_spec {w : World} {A : Option Addr} {c : Nat} {rs : List Rule} {bd nw : Int} (hs : Sl w 3 A rs.length c (rs.flatMap Rule.enc)) (hb : 24 * rs.length ≤ 281474976710656) :
    Calls Try.prog 11 #[.agg #[.slice A rs.length c, .int .i64 bd, .int .i64 nw]] w (RetRow w 74 3 rs.length (rs.flatMap Rule.enc) (fun v => .agg #[v, .int .i64 bd, .int .i64 nw])) := by
  refine calls_of_run (vs := [_]) (L := [(0, _)]) (n := 15) (F := []) (H := []) Try.func11 rfl rfl rfl rfl (HOk.start _) ?_
  refine Run.seq ?_
  refine Run.ops ?_
  refine SOps.one rfl (One.box (cs := [_, _, _]) rfl rfl rfl (fun b1 => ?_))
  refine SOps.one rfl (One.alloc rfl zero29 (fun b2 => ?_))
  refine SOps.nil ?_
  refine Run.seq ?_
  refine Run.ops ?_
  refine SOps.one rfl (One.alloc rfl zero29 (fun b3 => ?_))
  refine SOps.nil ?_
  refine Run.seq ?_
  refine Run.ops ?_
  refine SOps.st rfl rfl (Yv.fieldAddr fld24_0 rfl).yl ?_
  refine SOps.st rfl rfl (Yv.loadB (i := 2) lay22 rfl rfl rfl rfl).yl ?_
  refine SOps.one rfl (One.callRow rfl callable49 (.cons rfl (.nil)) (fun w' hw' => toDroughtRuleS_spec ((Rd.arg hs) w' hw') (by omega)) (fun A1 c1 => ?_))
  refine SOps.st rfl rfl (Yv.fieldAddr fld29_0 rfl).yl ?_
  refine SOps.one rfl (One.store (i := 1) (off := 0) (vs := [_]) (cs' := [_, _, _]) (H' := [_, _, _, _]) lay27 rfl rfl rfl rfl rfl rfl rfl rfl rfl rfl ?_)
  refine SOps.nil ?_
  refine Run.seq ?_
  refine Run.ops ?_
  refine SOps.st rfl rfl (Yv.fieldAddr fld24_1 rfl).yl ?_
  refine SOps.st rfl rfl (Yv.loadB (i := 3) lay3 rfl rfl rfl rfl).yl ?_
  refine SOps.st rfl rfl (Yv.fieldAddr fld29_1 rfl).yl ?_
  refine SOps.one rfl (One.store (i := 1) (off := 1) (vs := [_]) (cs' := [_, _, _]) (H' := [_, _, _, _]) lay3 rfl rfl rfl rfl rfl rfl rfl rfl rfl rfl ?_)
  refine SOps.nil ?_
  refine Run.seq ?_
  refine Run.ops ?_
  refine SOps.st rfl rfl (Yv.fieldAddr fld24_2 rfl).yl ?_
  refine SOps.st rfl rfl (Yv.loadB (i := 3) lay3 rfl rfl rfl rfl).yl ?_
  refine SOps.st rfl rfl (Yv.fieldAddr fld29_2 rfl).yl ?_
  refine SOps.one rfl (One.store (i := 1) (off := 2) (vs := [_]) (cs' := [_, _, _]) (H' := [_, _, _, _]) lay3 rfl rfl rfl rfl rfl rfl rfl rfl rfl rfl ?_)
  refine SOps.nil ?_
  refine Run.seq ?_
  refine Run.ops ?_
  refine SOps.st rfl rfl (Yv.loadBs (i := 1) lay29 rfl rfl rfl rfl).yl ?_
  refine SOps.one rfl (One.store (i := 2) (off := 0) (vs := [_, _, _]) (cs' := [_, _, _]) (H' := [_, _, _, _]) lay29 rfl rfl rfl rfl rfl rfl rfl rfl rfl rfl ?_)
  refine SOps.nil ?_
  refine Run.ret ?_
  refine retQ.of (.inr rfl) rfl (.cells (i := 2) rfl lay29 rfl rfl .nil) (fun w' hw' => ?_)
  exact ⟨_, _, rfl, hw'.bel.below, hw'.ent _ (List.mem_of_getElem? (i := 0) rfl), fun g hg => (hw'.own _ (List.mem_of_getElem? (i := 0) rfl) g hg).elim id (by simp)⟩
theorem szDrought_spec {w : World} {A : Option Addr} {c n : Nat} {bd nw left : Int} (hn : n ≤ 4611686018427387904) (h1 : 0 ≤ left) (h2 : left ≤ 4611686018427387904) :
    Calls Try.prog 9 #[.agg #[.slice A n c, .int .i64 bd, .int .i64 nw], .int .i64 left] w (RetB w (.int .i64 (if left < (n : Int) then -1 else left - n))) := by
  refine calls_of_run (vs := [_, _]) (L := [(0, _), (1, _)]) (n := 12) (F := []) (H := []) Try.func9 rfl rfl rfl rfl (HOk.start _) ?_
  refine Run.seq ?_
  refine Run.ops ?_
  refine SOps.one rfl (One.box (cs := [_, _, _]) rfl rfl rfl (fun b1 => ?_))
  refine SOps.st rfl rfl (Yv.assign rfl).yl ?_
  refine SOps.nil ?_
  refine Run.seq ?_
  refine Run.quiet (by intro h; cases h) ?_
  refine QOps.st rfl rfl (Yv.fieldAddr fld24_0 rfl).yl ?_
  refine QOps.st rfl rfl (Yv.loadB (i := 0) lay22 rfl rfl rfl rfl).yl ?_
  refine QOps.st rfl rfl (Yv.move rfl).yl ?_
  refine QOps.st rfl rfl (Yl.call callable47 (.cons rfl (.cons rfl (.nil))) (fun w' hw' => szDroughtRuleS_spec (by omega) (by omega) (by omega))) ?_
  refine QOps.st rfl rfl (Yv.assign rfl).yl ?_
  refine QOps.nil ?_
  refine Run.seq ?_
  refine Run.seq ?_
  refine Run.quiet (by intro h; cases h) ?_
  refine QOps.st rfl rfl (Yv.move rfl).yl ?_
  refine QOps.st rfl rfl (Yv.lss rfl rfl).yl ?_
  refine QOps.nil ?_
  refine Run.cond rfl (fun hc1 => ?_) (fun hc1 => ?_)
  · try replace hc1 := of_decide_eq_true hc1
    refine Run.seq ?_
    refine Run.quiet (by intro h; cases h) ?_
    refine QOps.st rfl rfl (Yv.assign rfl).yl ?_
    refine QOps.nil ?_
    refine Run.ret ?_
    refine retQ.of (.inr rfl) rfl (.tmp rfl .nil) (fun w' hw' => ?_)
    refine ⟨?_, hw'.bel.below⟩
    refine retI_eq ?_
    rw [if_pos (by split at hc1 <;> omega)]
  · try replace hc1 := of_decide_eq_false hc1
    refine Run.skip ?_
    refine Run.seq ?_
    refine Run.quiet (by intro h; cases h) ?_
    refine QOps.st rfl rfl (Yv.move rfl).yl ?_
    refine QOps.st rfl rfl (Yv.assign rfl).yl ?_
    refine QOps.nil ?_
    refine Run.ret ?_
    refine retQ.of (.inr rfl) rfl (.tmp rfl .nil) (fun w' hw' => ?_)
    refine ⟨?_, hw'.bel.below⟩
    exact rfl
theorem eqDrought_spec {w : World} {A A2 : Option Addr} {c c2 : Nat} {rs : List Rule} {bd nw : Int} (hs : Sl w 3 A rs.length c (rs.flatMap Rule.enc)) (hs2 : Sl w 3 A2 rs.length c2 (rs.flatMap Rule.enc)) :
    Calls Try.prog 13 #[.agg #[.slice A rs.length c, .int .i64 bd, .int .i64 nw], .agg #[.slice A2 rs.length c2, .int .i64 bd, .int .i64 nw]] w (RetB w (.bool true)) := by
  refine calls_of_run (vs := [_, _]) (L := [(0, _), (1, _)]) (n := 21) (F := []) (H := []) Try.func13 rfl rfl rfl rfl (HOk.start _) ?_
  refine Run.seq ?_
  refine Run.ops ?_
  refine SOps.one rfl (One.box (cs := [_, _, _]) rfl rfl rfl (fun b1 => ?_))
  refine SOps.one rfl (One.box (cs := [_, _, _]) rfl rfl rfl (fun b2 => ?_))
  refine SOps.st rfl rfl (Yv.assign rfl).yl ?_
  refine SOps.nil ?_
  refine Run.seq ?_
  refine Run.seq ?_
  refine Run.quiet (by intro h; cases h) ?_
  refine QOps.st rfl rfl (Yv.fieldAddr fld29_0 rfl).yl ?_
  refine QOps.st rfl rfl (Yv.loadB (i := 1) lay27 rfl rfl rfl rfl).yl ?_
  refine QOps.st rfl rfl (Yv.fieldAddr fld29_0 rfl).yl ?_
  refine QOps.st rfl rfl (Yv.loadB (i := 0) lay27 rfl rfl rfl rfl).yl ?_
  refine QOps.st rfl rfl (Yl.call callable52 (.cons rfl (.cons rfl (.nil))) (fun w' hw' => eqDroughtRuleS_spec ((Rd.arg hs) w' hw') ((Rd.arg hs2) w' hw'))) ?_
  refine QOps.st rfl rfl (Yv.not rfl).yl ?_
  refine QOps.nil ?_
  refine Run.cond rfl (fun hc1 => ?_) (fun hc1 => ?_)
  · exfalso
    simp at hc1
  · try replace hc1 := of_decide_eq_false hc1
    refine Run.skip ?_
    refine Run.seq ?_
    refine Run.seq ?_
    refine Run.quiet (by intro h; cases h) ?_
    refine QOps.st rfl rfl (Yv.fieldAddr fld29_1 rfl).yl ?_
    refine QOps.st rfl rfl (Yv.loadB (i := 1) lay3 rfl rfl rfl rfl).yl ?_
    refine QOps.st rfl rfl (Yv.fieldAddr fld29_1 rfl).yl ?_
    refine QOps.st rfl rfl (Yv.loadB (i := 0) lay3 rfl rfl rfl rfl).yl ?_
    refine QOps.st rfl rfl (Yv.neI rfl rfl).yl ?_
    refine QOps.nil ?_
    refine Run.cond rfl (fun hc2 => ?_) (fun hc2 => ?_)
    · exfalso
      simp at hc2
    · try replace hc2 := of_decide_eq_false hc2
      refine Run.skip ?_
      refine Run.seq ?_
      refine Run.seq ?_
      refine Run.quiet (by intro h; cases h) ?_
      refine QOps.st rfl rfl (Yv.fieldAddr fld29_2 rfl).yl ?_
      refine QOps.st rfl rfl (Yv.loadB (i := 1) lay3 rfl rfl rfl rfl).yl ?_
      refine QOps.st rfl rfl (Yv.fieldAddr fld29_2 rfl).yl ?_
      refine QOps.st rfl rfl (Yv.loadB (i := 0) lay3 rfl rfl rfl rfl).yl ?_
      refine QOps.st rfl rfl (Yv.neI rfl rfl).yl ?_
      refine QOps.nil ?_
      refine Run.cond rfl (fun hc3 => ?_) (fun hc3 => ?_)
      · exfalso
        simp at hc3
      · try replace hc3 := of_decide_eq_false hc3
        refine Run.skip ?_
        refine Run.seq ?_
        refine Run.quiet (by intro h; cases h) ?_
        refine QOps.st rfl rfl (Yv.assign rfl).yl ?_
        refine QOps.nil ?_
        refine Run.ret ?_
        refine retQ.of (.inr rfl) rfl (.tmp rfl .nil) (fun w' hw' => ?_)
        refine ⟨?_, hw'.bel.below⟩
        exact rfl
end Go.Proofs.Ytkkmmbogeeopaaa
