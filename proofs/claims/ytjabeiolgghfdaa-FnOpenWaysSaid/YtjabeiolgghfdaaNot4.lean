/- Notices: open ways, the next open day. Conditions: none. -/
import Derived.Test.YtjabeiolgghfdaaNot3
namespace Go.Proofs.Ytjabeiolgghfdaa
open Go.RowKit
def intC (n : Int) : List Value := [.int .i64 n]
theorem intC_len (n : Int) : (intC n).length = 1 := rfl
/-- A variable's block, read as a row of one. -/
theorem Rd.blk1 {w0 : World} {F : List Nat} {H : List HEnt} {i b : Nat} {T : TypeId} {n : Int} (hi : H[i]? = some (.blk b T [.int .i64 n])) : Rd w0 F H 1 (some ⟨b, 0, none⟩) 1 1 ([n].flatMap intC) := fun w hw => by
  have h : w.heap[b]? = some (.cells #[.int .i64 n] T (0, 0)) := hw.ent _ (List.mem_of_getElem? hi)
  refine ⟨by simp [intC], Nat.le_refl _, by decide, fun _ => ⟨rfl, ?_, ?_⟩⟩
  · exact (Array.getElem?_eq_some_iff.1 h).1
  · intro j u hu
    match j, hu with
    | 0, hu =>
      simp [intC] at hu
      subst hu
      simp [World.cell?, Addr.add, adr, h]
    | j + 1, hu => simp [intC] at hu
def closes (a b d : Int) (n : Notice) : Bool := decide (n.kind = 1) && meets n a b d
theorem isOpen1_spec {w : World} {n : Notice} {a b d : Int} {b5 b6 b7 : Nat} (h5 : Sl w 1 (some ⟨b5, 0, none⟩) 1 1 ([a].flatMap intC)) (h6 : Sl w 1 (some ⟨b6, 0, none⟩) 1 1 ([b].flatMap intC)) (h7 : Sl w 1 (some ⟨b7, 0, none⟩) 1 1 ([d].flatMap intC)) (hw : n.start ≤ n.stop) :
    Calls Try.prog 76 #[.agg n.enc.toArray, .pointer (some ⟨b5, 0, none⟩), .pointer (some ⟨b6, 0, none⟩), .pointer (some ⟨b7, 0, none⟩)] w (RetB w (.bool (closes a b d n))) := by
  refine calls_of_run (vs := [_, _, _, _]) (L := [(0, _), (1, _), (2, _), (3, _)]) (n := 16) (F := []) (H := []) Try.func76 rfl rfl rfl rfl (HOk.start _) ?_
  refine Run.seq ?_
  refine Run.ops ?_
  refine SOps.one rfl (One.box (cs := [_, _, _, _, _, _, _]) rfl rfl rfl (fun b1 => ?_))
  refine SOps.st rfl rfl (Yv.assign rfl).yl ?_
  refine SOps.nil ?_
  refine Run.seq ?_
  refine Run.quiet (by intro h; cases h) ?_
  refine QOps.st rfl rfl (Yv.fieldAddr fld59_1 rfl).yl ?_
  refine QOps.st rfl rfl (Yv.loadB (i := 0) lay3 rfl rfl rfl rfl).yl ?_
  refine QOps.st rfl rfl (Yv.eqI rfl rfl).yl ?_
  refine QOps.st rfl rfl (Yv.move rfl).yl ?_
  refine' QOps.and [_, _, _, _, _] _ (.tmp 14) rfl rfl rfl rfl rfl rfl (fun hg1 => ?_) ?_
  rotate_left
  · try replace hg1 := of_decide_eq_true hg1
    refine QOps.st rfl rfl (Yv.loadBs (i := 0) lay59 rfl rfl rfl rfl).yl ?_
    refine QOps.st rfl rfl (Yv.loadE (k := 0) lay3 rfl intC_len (Rd.arg h5) (by simp) rfl).yl ?_
    refine QOps.st rfl rfl (Yv.loadE (k := 0) lay3 rfl intC_len (Rd.arg h6) (by simp) rfl).yl ?_
    refine QOps.st rfl rfl (Yv.loadE (k := 0) lay3 rfl intC_len (Rd.arg h7) (by simp) rfl).yl ?_
    refine QOps.st rfl rfl (Yl.call callable60 (.cons rfl (.cons rfl (.cons rfl (.cons rfl (.nil))))) (fun w' hw' => meets_spec (by first | assumption | exact hway k (by omega)))) ?_
    exact QOps.nil rfl
  refine QOps.st rfl rfl (Yv.assign rfl).yl ?_
  refine QOps.nil ?_
  refine Run.ret ?_
  refine retQ.of (.inr rfl) rfl (.tmp rfl .nil) (fun w' hw' => ?_)
  refine ⟨?_, hw'.bel.below⟩
  exact rfl

theorem indexN_spec {w : World} {A : Option Addr} {c : Nat} {ns : List Notice} {a b d : Int} {b5 b6 b7 : Nat} (hs : Sl w 7 A ns.length c (ns.flatMap Notice.enc)) (h5 : Sl w 1 (some ⟨b5, 0, none⟩) 1 1 ([a].flatMap intC)) (h6 : Sl w 1 (some ⟨b6, 0, none⟩) 1 1 ([b].flatMap intC)) (h7 : Sl w 1 (some ⟨b7, 0, none⟩) 1 1 ([d].flatMap intC)) (hway : ∀ k, k < ns.length → (nth ns k).start ≤ (nth ns k).stop) :
    Calls Try.prog 78 #[.slice A ns.length c, .func (.func 76) #[] #[.pointer (some ⟨b5, 0, none⟩), .pointer (some ⟨b6, 0, none⟩), .pointer (some ⟨b7, 0, none⟩)]] w (RetB w (.int .i64 (match firstTo ns.length (fun k => closes a b d (nth ns k)) with | some k => (k : Int) | none => -1))) := by
  have hmx := Sl.lenle hs
  refine calls_of_run (vs := [_, _]) (L := [(0, _), (1, _)]) (n := 19) (F := []) (H := []) Try.func78 rfl rfl rfl rfl (HOk.start _) ?_
  refine Run.seq ?_
  refine Run.quiet (by intro h; cases h) ?_
  refine QOps.st rfl rfl (Yv.assign rfl).yl ?_
  refine QOps.nil ?_
  refine Run.seq ?_
  refine Run.seq ?_
  refine Run.quiet (by intro h; cases h) ?_
  refine QOps.st rfl rfl (Yv.move rfl).yl ?_
  refine QOps.st rfl rfl (Yv.lenS el25s rfl).yl ?_
  refine QOps.st rfl rfl (Yv.move rfl).yl ?_
  refine QOps.nil ?_
  refine Run.block ?_
  refine Run.loop (S := Nat) (fun s => match s with | k => k ≤ ns.length ∧ ∀ i, i < k → closes a b d (nth ns i) = false) (fun s => match s with | k => [(0, .slice A ns.length c), (1, .func (.func 76) #[] #[.pointer (some ⟨b5, 0, none⟩), .pointer (some ⟨b6, 0, none⟩), .pointer (some ⟨b7, 0, none⟩)]), (7, .int .i64 (ns.length : Int)), (8, .int .i64 (k : Int))]) (fun s => match s with | k => []) (fun s => match s with | k => ns.length - k) 0 ?_ (SubE.cons rfl (SubE.cons rfl (SubE.cons rfl (SubE.cons rfl (SubE.nil _))))) (List.Sublist.refl _) ?_
  · exact ⟨by omega, fun i hi => by omega⟩
  · rintro k ⟨hk, hall⟩
    show Run _ _ _ _ _ [(0, .slice A ns.length c), (1, .func (.func 76) #[] #[.pointer (some ⟨b5, 0, none⟩), .pointer (some ⟨b6, 0, none⟩), .pointer (some ⟨b7, 0, none⟩)]), (7, .int .i64 (ns.length : Int)), (8, .int .i64 (k : Int))] [] _
    refine Run.seq ?_
    refine Run.quiet (by intro h; cases h) ?_
    refine QOps.st rfl rfl (Yv.lss rfl rfl).yl ?_
    refine QOps.nil ?_
    refine Run.seq ?_
    refine Run.cond rfl (fun hc1 => ?_) (fun hc1 => ?_)
    · try replace hc1 := of_decide_eq_true hc1
      refine Run.skip ?_
      refine Run.seq ?_
      refine Run.block ?_
      refine Run.seq ?_
      refine Run.quiet (by intro h; cases h) ?_
      refine QOps.st rfl rfl (Yv.move rfl).yl ?_
      refine QOps.st rfl rfl (Yv.assign rfl).yl ?_
      refine QOps.nil ?_
      refine Run.seq ?_
      refine Run.quiet (by intro h; cases h) ?_
      refine QOps.st rfl rfl (Yv.move rfl).yl ?_
      refine QOps.st rfl rfl (Yv.move rfl).yl ?_
      refine QOps.st rfl rfl (Yv.move rfl).yl ?_
      refine QOps.st rfl rfl (Yv.indexAddr k el25 rfl rfl rfl (Rd.arg hs) (by omega)).yl ?_
      refine QOps.st rfl rfl (Yv.loadEs lay59 rfl Notice.len (Rd.arg hs) (by first | omega | (simp; omega)) (by decide)).yl ?_
      refine QOps.st rfl rfl (Yl.callV rfl callable76 (.cons rfl (.nil)) (fun w' hw' => isOpen1_spec ((Rd.arg h5) w' hw') ((Rd.arg h6) w' hw') ((Rd.arg h7) w' hw') (hway k (by omega)))) ?_
      refine QOps.nil ?_
      refine Run.cond rfl (fun hc2 => ?_) (fun hc2 => ?_)
      · try replace hc2 := of_decide_eq_true hc2
        refine Run.seq ?_
        refine Run.quiet (by intro h; cases h) ?_
        refine QOps.st rfl rfl (Yv.move rfl).yl ?_
        refine QOps.st rfl rfl (Yv.assign rfl).yl ?_
        refine QOps.nil ?_
        refine Run.ret ?_
        refine retQ.of (.inr rfl) rfl (.tmp rfl .nil) (fun w' hw' => ?_)
        refine ⟨?_, hw'.bel.below⟩
        refine retI_eq ?_
        rw [firstTo_some (k := k) (by omega) hc2 hall]
      · try replace hc2 := of_decide_eq_false hc2
        refine Run.skip ?_
        refine Run.quiet (by intro h; cases h) ?_
        refine QOps.st rfl rfl (Yv.succN rfl rfl (by omega)).yl ?_
        refine QOps.st rfl rfl (Yv.move rfl).yl ?_
        refine QOps.nil ?_
        refine ⟨k + 1, ?_, ?_, (SubE.cons rfl (SubE.cons rfl (SubE.cons rfl (SubE.cons rfl (SubE.nil _))))), (List.Sublist.refl _)⟩
        · exact ⟨by omega, all_succ hall hc2⟩
        · first | omega | (dsimp only; omega)
    · try replace hc1 := of_decide_eq_false hc1
      refine Run.exit ?_
      refine Run.seq ?_
      refine Run.quiet (by intro h; cases h) ?_
      refine QOps.st rfl rfl (Yv.assign rfl).yl ?_
      refine QOps.nil ?_
      refine Run.ret ?_
      refine retQ.of (.inr rfl) rfl (.tmp rfl .nil) (fun w' hw' => ?_)
      refine ⟨?_, hw'.bel.below⟩
      refine retI_eq ?_
      rw [firstTo_none (fun i hi => hall i (by omega))]
theorem containsN_spec {w : World} {A : Option Addr} {c : Nat} {ns : List Notice} {a b d : Int} {b5 b6 b7 : Nat} (hs : Sl w 7 A ns.length c (ns.flatMap Notice.enc)) (h5 : Sl w 1 (some ⟨b5, 0, none⟩) 1 1 ([a].flatMap intC)) (h6 : Sl w 1 (some ⟨b6, 0, none⟩) 1 1 ([b].flatMap intC)) (h7 : Sl w 1 (some ⟨b7, 0, none⟩) 1 1 ([d].flatMap intC)) (hway : ∀ k, k < ns.length → (nth ns k).start ≤ (nth ns k).stop) :
    Calls Try.prog 75 #[.slice A ns.length c, .func (.func 76) #[] #[.pointer (some ⟨b5, 0, none⟩), .pointer (some ⟨b6, 0, none⟩), .pointer (some ⟨b7, 0, none⟩)]] w (RetB w (.bool (!allTo ns.length (fun k => !closes a b d (nth ns k))))) := by
  refine calls_of_run (vs := [_, _]) (L := [(0, _), (1, _)]) (n := 9) (F := []) (H := []) Try.func75 rfl rfl rfl rfl (HOk.start _) ?_
  refine Run.seq ?_
  refine Run.quiet (by intro h; cases h) ?_
  refine QOps.st rfl rfl (Yv.assign rfl).yl ?_
  refine QOps.nil ?_
  refine Run.seq ?_
  refine Run.quiet (by intro h; cases h) ?_
  refine QOps.st rfl rfl (Yv.move rfl).yl ?_
  refine QOps.st rfl rfl (Yv.move rfl).yl ?_
  refine QOps.st rfl rfl (Yl.call callable78 (.cons rfl (.cons rfl (.nil))) (fun w' hw' => indexN_spec ((Rd.arg hs) w' hw') ((Rd.arg h5) w' hw') ((Rd.arg h6) w' hw') ((Rd.arg h7) w' hw') hway)) ?_
  refine QOps.st rfl rfl (Yv.geq rfl rfl).yl ?_
  refine QOps.st rfl rfl (Yv.assign rfl).yl ?_
  refine QOps.nil ?_
  refine Run.ret ?_
  refine retQ.of (.inr rfl) rfl (.tmp rfl .nil) (fun w' hw' => ?_)
  refine ⟨?_, hw'.bel.below⟩
  refine retB_eq ?_
  by_cases hall : ∀ i, i < ns.length → (!closes a b d (nth ns i)) = true
  · rw [firstTo_none (fun i hi => by simpa using hall i hi), allTo_iff.2 hall]; rfl
  · obtain ⟨k, hk, hp, hlt⟩ := exists_first hall
    rw [firstTo_some (k := k) hk (by simpa using hp) (fun i hi => by simpa using hlt i hi), allTo_false hk hp]; simp

/-- No notice of the first kind is met. -/
def openDay (ns : List Notice) (a b d : Int) : Bool := allTo ns.length (fun k => !closes a b d (nth ns k))
theorem isOpen_spec {w : World} {A : Option Addr} {c : Nat} {ns : List Notice} {a b d : Int} (hs : Sl w 7 A ns.length c (ns.flatMap Notice.enc)) (hway : ∀ k, k < ns.length → (nth ns k).start ≤ (nth ns k).stop) :
    Calls Try.prog 57 #[.slice A ns.length c, .int .i64 a, .int .i64 b, .int .i64 d] w (RetB w (.bool (openDay ns a b d))) := by
  refine calls_of_run (vs := [_, _, _, _]) (L := [(0, _), (1, _), (2, _), (3, _)]) (n := 13) (F := []) (H := []) Try.func57 rfl rfl rfl rfl (HOk.start _) ?_
  refine Run.seq ?_
  refine Run.ops ?_
  refine SOps.one rfl (One.box (cs := [_]) rfl rfl rfl (fun b1 => ?_))
  refine SOps.one rfl (One.box (cs := [_]) rfl rfl rfl (fun b2 => ?_))
  refine SOps.one rfl (One.box (cs := [_]) rfl rfl rfl (fun b3 => ?_))
  refine SOps.st rfl rfl (Yv.assign rfl).yl ?_
  refine SOps.nil ?_
  refine Run.seq ?_
  refine Run.quiet (by intro h; cases h) ?_
  refine QOps.st rfl rfl (Yv.move rfl).yl ?_
  refine QOps.st rfl rfl (Yv.makeFunc .nil (.cons rfl (.cons rfl (.cons rfl (.nil))))).yl ?_
  refine QOps.st rfl rfl (Yl.call callable75 (.cons rfl (.cons rfl (.nil))) (fun w' hw' => containsN_spec ((Rd.arg hs) w' hw') (Rd.blk1 (i := 2) rfl w' hw') (Rd.blk1 (i := 1) rfl w' hw') (Rd.blk1 (i := 0) rfl w' hw') hway)) ?_
  refine QOps.st rfl rfl (Yv.not rfl).yl ?_
  refine QOps.st rfl rfl (Yv.assign rfl).yl ?_
  refine QOps.nil ?_
  refine Run.ret ?_
  refine retQ.of (.inr rfl) rfl (.tmp rfl .nil) (fun w' hw' => ?_)
  refine ⟨?_, hw'.bel.below⟩
  refine retB_eq ?_
  unfold openDay
  rw [Bool.not_not]
end Go.Proofs.Ytjabeiolgghfdaa
