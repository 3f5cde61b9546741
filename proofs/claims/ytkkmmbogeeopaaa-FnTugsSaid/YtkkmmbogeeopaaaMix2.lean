/- Droughts: when one is one, the stage at a level, the rule in force. Conditions: none. -/
import Derived.Test.YtkkmmbogeeopaaaMix1
namespace Go.Proofs.Ytkkmmbogeeopaaa
open Go.RowKit
set_option maxRecDepth 100000
theorem inside_spec {w : World} {n lo hi : Int} : Calls Try.prog 50 #[.int .i64 n, .int .i64 lo, .int .i64 hi] w (RetB w (.bool (inB n lo hi))) := by
  refine calls_of_run (vs := [_, _, _]) (L := [(0, _), (1, _), (2, _)]) (n := 15) (F := []) (H := []) Try.func50 rfl rfl rfl rfl (HOk.start _) ?_
  refine Run.seq ?_
  refine Run.quiet (by intro h; cases h) ?_
  refine QOps.st rfl rfl (Yv.assign rfl).yl ?_
  refine QOps.nil ?_
  refine Run.seq ?_
  refine Run.quiet (by intro h; cases h) ?_
  refine QOps.st rfl rfl (Yv.move rfl).yl ?_
  refine QOps.st rfl rfl (Yv.move rfl).yl ?_
  refine QOps.st rfl rfl (Yv.geq rfl rfl).yl ?_
  refine QOps.st rfl rfl (Yv.move rfl).yl ?_
  refine' QOps.and [_, _, _] _ (.tmp 13) rfl rfl rfl rfl rfl rfl (fun hg1 => ?_) ?_
  rotate_left
  · try replace hg1 := of_decide_eq_true hg1
    refine QOps.st rfl rfl (Yv.move rfl).yl ?_
    refine QOps.st rfl rfl (Yv.move rfl).yl ?_
    refine QOps.st rfl rfl (Yv.leq rfl rfl).yl ?_
    exact QOps.nil rfl
  refine QOps.st rfl rfl (Yv.assign rfl).yl ?_
  refine QOps.nil ?_
  refine Run.ret ?_
  refine retQ.of (.inr rfl) rfl (.tmp rfl .nil) (fun w' hw' => ?_)
  refine ⟨?_, hw'.bel.below⟩
  exact rfl

theorem l1In_spec {w : World} {n lo hi : Int} : Calls Try.prog 77 #[.int .i64 n, .int .i64 lo, .int .i64 hi] w (RetB w (.bool (inB n lo hi))) := by
  refine calls_of_run (vs := [_, _, _]) (L := [(0, _), (1, _), (2, _)]) (n := 15) (F := []) (H := []) Try.func77 rfl rfl rfl rfl (HOk.start _) ?_
  refine Run.seq ?_
  refine Run.quiet (by intro h; cases h) ?_
  refine QOps.st rfl rfl (Yv.assign rfl).yl ?_
  refine QOps.nil ?_
  refine Run.seq ?_
  refine Run.quiet (by intro h; cases h) ?_
  refine QOps.st rfl rfl (Yv.move rfl).yl ?_
  refine QOps.st rfl rfl (Yv.move rfl).yl ?_
  refine QOps.st rfl rfl (Yv.geq rfl rfl).yl ?_
  refine QOps.st rfl rfl (Yv.move rfl).yl ?_
  refine' QOps.and [_, _, _] _ (.tmp 13) rfl rfl rfl rfl rfl rfl (fun hg1 => ?_) ?_
  rotate_left
  · try replace hg1 := of_decide_eq_true hg1
    refine QOps.st rfl rfl (Yv.move rfl).yl ?_
    refine QOps.st rfl rfl (Yv.move rfl).yl ?_
    refine QOps.st rfl rfl (Yv.leq rfl rfl).yl ?_
    exact QOps.nil rfl
  refine QOps.st rfl rfl (Yv.assign rfl).yl ?_
  refine QOps.nil ?_
  refine Run.ret ?_
  refine retQ.of (.inr rfl) rfl (.tmp rfl .nil) (fun w' hw' => ?_)
  refine ⟨?_, hw'.bel.below⟩
  exact rfl

theorem isDraught_spec {w : World} {n : Int} : Calls Try.prog 51 #[.int .i64 n] w (RetB w (.bool (inB n 50 500))) := by
  refine calls_of_run (vs := [_]) (L := [(0, _)]) (n := 5) (F := []) (H := []) Try.func51 rfl rfl rfl rfl (HOk.start _) ?_
  refine Run.seq ?_
  refine Run.quiet (by intro h; cases h) ?_
  refine QOps.st rfl rfl (Yv.assign rfl).yl ?_
  refine QOps.nil ?_
  refine Run.seq ?_
  refine Run.quiet (by intro h; cases h) ?_
  refine QOps.st rfl rfl (Yv.move rfl).yl ?_
  refine QOps.st rfl rfl (Yl.call callable50 (.cons rfl (.cons rfl (.cons rfl (.nil)))) (fun w' hw' => inside_spec)) ?_
  refine QOps.st rfl rfl (Yv.assign rfl).yl ?_
  refine QOps.nil ?_
  refine Run.ret ?_
  refine retQ.of (.inr rfl) rfl (.tmp rfl .nil) (fun w' hw' => ?_)
  refine ⟨?_, hw'.bel.below⟩
  exact rfl

theorem isGauge_spec {w : World} {n : Int} : Calls Try.prog 57 #[.int .i64 n] w (RetB w (.bool (inB n 0 2000))) := by
  refine calls_of_run (vs := [_]) (L := [(0, _)]) (n := 5) (F := []) (H := []) Try.func57 rfl rfl rfl rfl (HOk.start _) ?_
  refine Run.seq ?_
  refine Run.quiet (by intro h; cases h) ?_
  refine QOps.st rfl rfl (Yv.assign rfl).yl ?_
  refine QOps.nil ?_
  refine Run.seq ?_
  refine Run.quiet (by intro h; cases h) ?_
  refine QOps.st rfl rfl (Yv.move rfl).yl ?_
  refine QOps.st rfl rfl (Yl.call callable50 (.cons rfl (.cons rfl (.cons rfl (.nil)))) (fun w' hw' => inside_spec)) ?_
  refine QOps.st rfl rfl (Yv.assign rfl).yl ?_
  refine QOps.nil ?_
  refine Run.ret ?_
  refine retQ.of (.inr rfl) rfl (.tmp rfl .nil) (fun w' hw' => ?_)
  refine ⟨?_, hw'.bel.below⟩
  exact rfl

theorem l6Level_spec {w : World} {n : Int} : Calls Try.prog 55 #[.int .i64 n] w (RetB w (.bool (inB n 0 2000))) := by
  refine calls_of_run (vs := [_]) (L := [(0, _)]) (n := 5) (F := []) (H := []) Try.func55 rfl rfl rfl rfl (HOk.start _) ?_
  refine Run.seq ?_
  refine Run.quiet (by intro h; cases h) ?_
  refine QOps.st rfl rfl (Yv.assign rfl).yl ?_
  refine QOps.nil ?_
  refine Run.seq ?_
  refine Run.quiet (by intro h; cases h) ?_
  refine QOps.st rfl rfl (Yv.move rfl).yl ?_
  refine QOps.st rfl rfl (Yl.call callable77 (.cons rfl (.cons rfl (.cons rfl (.nil)))) (fun w' hw' => l1In_spec)) ?_
  refine QOps.st rfl rfl (Yv.assign rfl).yl ?_
  refine QOps.nil ?_
  refine Run.ret ?_
  refine retQ.of (.inr rfl) rfl (.tmp rfl .nil) (fun w' hw' => ?_)
  refine ⟨?_, hw'.bel.below⟩
  exact rfl

def rangeD (r : Rule) : Bool := !inB r.below 1 2000 || !inB r.draught 50 500
def fallsD (a b : Rule) : Bool := decide (a.below ≤ b.below) || decide (a.draught < b.draught) || (a.half && !b.half)
def badD (rs : List Rule) (k : Nat) : Bool := rangeD (nth rs k) || (decide ((0 : Int) < (k : Int)) && fallsD (nth rs (k - 1)) (nth rs k))
def isDrought (rs : List Rule) (bd nw : Int) : Bool := allTo rs.length (fun k => !badD rs k) && (inB (rs.length : Int) 1 6 && inB bd 0 100 && inB nw 0 (rs.length : Int))
theorem drought_bad {rs : List Rule} {bd nw : Int} {k : Nat} (hk : k < rs.length) (h : badD rs k = true) : isDrought rs bd nw = false := by
  unfold isDrought
  rw [allTo_false hk (by rw [h]; rfl)]
  rfl
theorem drought_good {rs : List Rule} {bd nw : Int} (h : ∀ i, i < rs.length → badD rs i = false) : isDrought rs bd nw = (inB (rs.length : Int) 1 6 && inB bd 0 100 && inB nw 0 (rs.length : Int)) := by
  unfold isDrought
  rw [allTo_iff.2 (fun i hi => by rw [h i hi]; rfl)]
  rfl
theorem drought_now {rs : List Rule} {bd nw : Int} (h : isDrought rs bd nw = true) : 0 ≤ nw ∧ nw ≤ rs.length := by
  simp only [isDrought, Bool.and_eq_true, inB_iff] at h
  exact h.2.2
theorem IsDrought_spec {w : World} {A : Option Addr} {c : Nat} {rs : List Rule} {bd nw : Int} (hs : Sl w 3 A rs.length c (rs.flatMap Rule.enc)) : Calls Try.prog 12 #[.agg #[.slice A rs.length c, .int .i64 bd, .int .i64 nw]] w (RetB w (.bool (isDrought rs bd nw))) := by
  have hmx := Sl.lenle hs
  refine calls_of_run (vs := [_]) (L := [(0, _)]) (n := 71) (F := []) (H := []) Try.func12 rfl rfl rfl rfl (HOk.start _) ?_
  refine Run.seq ?_
  refine Run.ops ?_
  refine SOps.one rfl (One.box (cs := [_, _, _]) rfl rfl rfl (fun b1 => ?_))
  refine SOps.st rfl rfl (Yv.assign rfl).yl ?_
  refine SOps.nil ?_
  refine Run.seq ?_
  refine Run.seq ?_
  refine Run.quiet (by intro h; cases h) ?_
  refine QOps.st rfl rfl (Yv.fieldAddr fld29_0 rfl).yl ?_
  refine QOps.st rfl rfl (Yv.loadB (i := 0) lay27 rfl rfl rfl rfl).yl ?_
  refine QOps.st rfl rfl (Yv.lenS el27s rfl).yl ?_
  refine QOps.st rfl rfl (Yv.move rfl).yl ?_
  refine QOps.nil ?_
  refine Run.block ?_
  refine Run.loop (S := Nat) (fun s => match s with | k => k ≤ rs.length ∧ ∀ i, i < k → badD rs i = false) (fun s => match s with | k => [(1, .pointer (some ⟨b1, 0, none⟩)), (7, .slice A rs.length c), (8, .int .i64 (rs.length : Int)), (9, .int .i64 (k : Int))]) (fun s => match s with | k => [.blk b1 29 [.slice A rs.length c, .int .i64 bd, .int .i64 nw]]) (fun s => match s with | k => rs.length - k) 0 ?_ (SubE.cons rfl (SubE.cons rfl (SubE.cons rfl (SubE.cons rfl (SubE.nil _))))) (List.Sublist.refl _) ?_
  · exact ⟨by omega, fun i hi => by omega⟩
  · rintro k ⟨hk, hall⟩
    show Run _ _ _ _ _ [(1, .pointer (some ⟨b1, 0, none⟩)), (7, .slice A rs.length c), (8, .int .i64 (rs.length : Int)), (9, .int .i64 (k : Int))] [.blk b1 29 [.slice A rs.length c, .int .i64 bd, .int .i64 nw]] _
    refine Run.seq ?_
    refine Run.quiet (by intro h; cases h) ?_
    refine QOps.st rfl rfl (Yv.lss rfl rfl).yl ?_
    refine QOps.nil ?_
    refine Run.seq ?_
    refine Run.cond rfl (fun hc1 => ?_) (fun hc1 => ?_)
    · try replace hc1 := of_decide_eq_true hc1
      refine Run.skip ?_
      refine Run.seq ?_
      refine Run.block ?_
      refine Run.seq ?_
      refine Run.ops ?_
      refine SOps.st rfl rfl (Yv.move rfl).yl ?_
      refine SOps.st rfl rfl (Yv.indexAddr k el27 rfl rfl rfl (Rd.arg hs) (by omega)).yl ?_
      refine SOps.st rfl rfl (Yv.loadEs lay74 rfl Rule.len (Rd.arg hs) (by first | omega | (simp; omega)) (by decide)).yl ?_
      refine SOps.one rfl (One.alloc rfl zero74 (fun b2 => ?_))
      refine SOps.st rfl rfl (Yv.assign rfl).yl ?_
      refine SOps.one rfl (One.store (i := 0) (off := 0) (vs := [_, _, _]) (cs' := [_, _, _]) (H' := [_, _]) lay74 rfl rfl rfl rfl rfl rfl rfl rfl rfl rfl ?_)
      refine SOps.nil ?_
      refine Run.seq ?_
      refine Run.seq ?_
      refine Run.quiet (by intro h; cases h) ?_
      refine QOps.st rfl rfl (Yv.fieldAddr fld74_0 rfl).yl ?_
      refine QOps.st rfl rfl (Yv.loadB (i := 0) lay3 rfl rfl rfl rfl).yl ?_
      refine QOps.st rfl rfl (Yl.call callable50 (.cons rfl (.cons rfl (.cons rfl (.nil)))) (fun w' hw' => inside_spec)) ?_
      refine QOps.st rfl rfl (Yv.not rfl).yl ?_
      refine QOps.st rfl rfl (Yv.move rfl).yl ?_
      refine' QOps.or [_, _, _, _] _ (.tmp 22) rfl rfl rfl rfl rfl rfl (fun hg1 => ?_) ?_
      rotate_left
      · try replace hg1 := of_decide_eq_false hg1
        refine QOps.st rfl rfl (Yv.fieldAddr fld74_1 rfl).yl ?_
        refine QOps.st rfl rfl (Yv.loadB (i := 0) lay3 rfl rfl rfl rfl).yl ?_
        refine QOps.st rfl rfl (Yl.call callable51 (.cons rfl (.nil)) (fun w' hw' => isDraught_spec)) ?_
        refine QOps.st rfl rfl (Yv.not rfl).yl ?_
        exact QOps.nil rfl
      refine QOps.nil ?_
      refine Run.cond rfl (fun hc2 => ?_) (fun hc2 => ?_)
      · try replace hc2 := of_decide_eq_true hc2
        refine Run.seq ?_
        refine Run.quiet (by intro h; cases h) ?_
        refine QOps.st rfl rfl (Yv.assign rfl).yl ?_
        refine QOps.nil ?_
        refine Run.ret ?_
        refine retQ.of (.inr rfl) rfl (.tmp rfl .nil) (fun w' hw' => ?_)
        refine ⟨?_, hw'.bel.below⟩
        refine retB_eq ?_
        rw [drought_bad (k := k) (by omega) (by unfold badD; rw [show rangeD (nth rs k) = true from hc2]; rfl)]
      · try replace hc2 := of_decide_eq_false hc2
        refine Run.skip ?_
        refine Run.seq ?_
        refine Run.seq ?_
        refine Run.quiet (by intro h; cases h) ?_
        refine QOps.st rfl rfl (Yv.move rfl).yl ?_
        refine QOps.st rfl rfl (Yv.eqI rfl rfl).yl ?_
        refine QOps.nil ?_
        refine Run.cond rfl (fun hc3 => ?_) (fun hc3 => ?_)
        · try replace hc3 := of_decide_eq_true hc3
          refine Run.exit ?_
          refine Run.quiet (by intro h; cases h) ?_
          refine QOps.st rfl rfl (Yv.succN rfl rfl (by omega)).yl ?_
          refine QOps.st rfl rfl (Yv.move rfl).yl ?_
          refine QOps.nil ?_
          refine ⟨k + 1, ?_, ?_, (SubE.cons rfl (SubE.cons rfl (SubE.cons rfl (SubE.cons rfl (SubE.nil _))))), (List.Sublist.cons _ (List.Sublist.refl _))⟩
          · exact ⟨by omega, all_succ hall (by unfold badD; rw [show rangeD (nth rs k) = false from hc2, decide_eq_false (by omega)]; rfl)⟩
          · first | omega | (dsimp only; omega)
        · try replace hc3 := of_decide_eq_false hc3
          refine Run.skip ?_
          refine Run.seq ?_
          refine Run.ops ?_
          refine SOps.st rfl rfl (Yv.fieldAddr fld29_0 rfl).yl ?_
          refine SOps.st rfl rfl (Yv.loadB (i := 1) lay27 rfl rfl rfl rfl).yl ?_
          refine SOps.st rfl rfl (Yv.move rfl).yl ?_
          refine SOps.st rfl rfl (Yv.sub rfl rfl (by omega)).yl ?_
          refine SOps.st rfl rfl (Yv.indexAddr (k - 1) el27 rfl rfl (by omega) (Rd.arg hs) (by omega)).yl ?_
          refine SOps.st rfl rfl (Yv.loadEs lay74 rfl Rule.len (Rd.arg hs) (by first | omega | (simp; omega)) (by decide)).yl ?_
          refine SOps.one rfl (One.alloc rfl zero74 (fun b3 => ?_))
          refine SOps.one rfl (One.store (i := 0) (off := 0) (vs := [_, _, _]) (cs' := [_, _, _]) (H' := [_, _, _]) lay74 rfl rfl rfl rfl rfl rfl rfl rfl rfl rfl ?_)
          refine SOps.nil ?_
          refine Run.seq ?_
          refine Run.quiet (by intro h; cases h) ?_
          refine QOps.st rfl rfl (Yv.fieldAddr fld74_0 rfl).yl ?_
          refine QOps.st rfl rfl (Yv.loadB (i := 0) lay3 rfl rfl rfl rfl).yl ?_
          refine QOps.st rfl rfl (Yv.fieldAddr fld74_0 rfl).yl ?_
          refine QOps.st rfl rfl (Yv.loadB (i := 1) lay3 rfl rfl rfl rfl).yl ?_
          refine QOps.st rfl rfl (Yv.leq rfl rfl).yl ?_
          refine QOps.st rfl rfl (Yv.move rfl).yl ?_
          refine' QOps.or [_, _, _, _, _] _ (.tmp 42) rfl rfl rfl rfl rfl rfl (fun hg2 => ?_) ?_
          rotate_left
          · try replace hg2 := of_decide_eq_false hg2
            refine QOps.st rfl rfl (Yv.fieldAddr fld74_1 rfl).yl ?_
            refine QOps.st rfl rfl (Yv.loadB (i := 0) lay3 rfl rfl rfl rfl).yl ?_
            refine QOps.st rfl rfl (Yv.fieldAddr fld74_1 rfl).yl ?_
            refine QOps.st rfl rfl (Yv.loadB (i := 1) lay3 rfl rfl rfl rfl).yl ?_
            refine QOps.st rfl rfl (Yv.lss rfl rfl).yl ?_
            exact QOps.nil rfl
          refine QOps.st rfl rfl (Yv.move rfl).yl ?_
          refine' QOps.or [_, _, _, _, _, _, _] _ (.tmp 51) rfl rfl rfl rfl rfl rfl (fun hg3 => ?_) ?_
          rotate_left
          · try replace hg3 := of_decide_eq_false hg3
            refine QOps.st rfl rfl (Yv.fieldAddr fld74_2 rfl).yl ?_
            refine QOps.st rfl rfl (Yv.loadB (i := 0) lay4 rfl rfl rfl rfl).yl ?_
            refine QOps.st rfl rfl (Yv.move rfl).yl ?_
            refine' QOps.and [_, _, _] _ (.tmp 50) rfl rfl rfl rfl rfl rfl (fun hg4 => ?_) ?_
            rotate_left
            · try replace hg4 := of_decide_eq_true hg4
              refine QOps.st rfl rfl (Yv.fieldAddr fld74_2 rfl).yl ?_
              refine QOps.st rfl rfl (Yv.loadB (i := 1) lay4 rfl rfl rfl rfl).yl ?_
              refine QOps.st rfl rfl (Yv.not rfl).yl ?_
              exact QOps.nil rfl
            exact QOps.nil rfl
          refine QOps.nil ?_
          refine Run.cond rfl (fun hc4 => ?_) (fun hc4 => ?_)
          · try replace hc4 := of_decide_eq_true hc4
            refine Run.seq ?_
            refine Run.quiet (by intro h; cases h) ?_
            refine QOps.st rfl rfl (Yv.assign rfl).yl ?_
            refine QOps.nil ?_
            refine Run.ret ?_
            refine retQ.of (.inr rfl) rfl (.tmp rfl .nil) (fun w' hw' => ?_)
            refine ⟨?_, hw'.bel.below⟩
            refine retB_eq ?_
            rw [drought_bad (k := k) (by omega) (by unfold badD; rw [show fallsD (nth rs (k - 1)) (nth rs k) = true from hc4, decide_eq_true (by omega)]; simp)]
          · try replace hc4 := of_decide_eq_false hc4
            refine Run.skip ?_
            refine Run.quiet (by intro h; cases h) ?_
            refine QOps.st rfl rfl (Yv.succN rfl rfl (by omega)).yl ?_
            refine QOps.st rfl rfl (Yv.move rfl).yl ?_
            refine QOps.nil ?_
            refine ⟨k + 1, ?_, ?_, (SubE.cons rfl (SubE.cons rfl (SubE.cons rfl (SubE.cons rfl (SubE.nil _))))), (List.Sublist.cons _ (List.Sublist.cons _ (List.Sublist.refl _)))⟩
            · exact ⟨by omega, all_succ hall (by unfold badD; rw [show rangeD (nth rs k) = false from hc2, show fallsD (nth rs (k - 1)) (nth rs k) = false from hc4]; simp)⟩
            · first | omega | (dsimp only; omega)
    · try replace hc1 := of_decide_eq_false hc1
      refine Run.exit ?_
      refine Run.seq ?_
      refine Run.quiet (by intro h; cases h) ?_
      refine QOps.st rfl rfl (Yv.fieldAddr fld29_0 rfl).yl ?_
      refine QOps.st rfl rfl (Yv.loadB (i := 0) lay27 rfl rfl rfl rfl).yl ?_
      refine QOps.st rfl rfl (Yv.lenS el27s rfl).yl ?_
      refine QOps.st rfl rfl (Yl.call callable50 (.cons rfl (.cons rfl (.cons rfl (.nil)))) (fun w' hw' => inside_spec)) ?_
      refine QOps.st rfl rfl (Yv.move rfl).yl ?_
      refine' QOps.and [_, _, _] _ (.tmp 61) rfl rfl rfl rfl rfl rfl (fun hg5 => ?_) ?_
      rotate_left
      · try replace hg5 := of_decide_eq_true hg5
        refine QOps.st rfl rfl (Yv.fieldAddr fld29_1 rfl).yl ?_
        refine QOps.st rfl rfl (Yv.loadB (i := 0) lay3 rfl rfl rfl rfl).yl ?_
        refine QOps.st rfl rfl (Yl.call callable50 (.cons rfl (.cons rfl (.cons rfl (.nil)))) (fun w' hw' => inside_spec)) ?_
        exact QOps.nil rfl
      refine QOps.st rfl rfl (Yv.move rfl).yl ?_
      refine' QOps.and [_, _, _, _, _, _] _ (.tmp 69) rfl rfl rfl rfl rfl rfl (fun hg6 => ?_) ?_
      rotate_left
      · try replace hg6 := of_decide_eq_true hg6
        refine QOps.st rfl rfl (Yv.fieldAddr fld29_2 rfl).yl ?_
        refine QOps.st rfl rfl (Yv.loadB (i := 0) lay3 rfl rfl rfl rfl).yl ?_
        refine QOps.st rfl rfl (Yv.fieldAddr fld29_0 rfl).yl ?_
        refine QOps.st rfl rfl (Yv.loadB (i := 0) lay27 rfl rfl rfl rfl).yl ?_
        refine QOps.st rfl rfl (Yv.lenS el27s rfl).yl ?_
        refine QOps.st rfl rfl (Yl.call callable50 (.cons rfl (.cons rfl (.cons rfl (.nil)))) (fun w' hw' => inside_spec)) ?_
        exact QOps.nil rfl
      refine QOps.st rfl rfl (Yv.assign rfl).yl ?_
      refine QOps.nil ?_
      refine Run.ret ?_
      refine retQ.of (.inr rfl) rfl (.tmp rfl .nil) (fun w' hw' => ?_)
      refine ⟨?_, hw'.bel.below⟩
      refine retB_eq ?_
      rw [drought_good (fun i hi => hall i (by omega))]

theorem l23Good_spec {w : World} {A : Option Addr} {c : Nat} {rs : List Rule} {bd nw : Int} (hs : Sl w 3 A rs.length c (rs.flatMap Rule.enc)) : Calls Try.prog 48 #[.agg #[.slice A rs.length c, .int .i64 bd, .int .i64 nw]] w (RetB w (.bool (isDrought rs bd nw))) := by
  have hmx := Sl.lenle hs
  refine calls_of_run (vs := [_]) (L := [(0, _)]) (n := 84) (F := []) (H := []) Try.func48 rfl rfl rfl rfl (HOk.start _) ?_
  refine Run.seq ?_
  refine Run.ops ?_
  refine SOps.one rfl (One.box (cs := [_, _, _]) rfl rfl rfl (fun b1 => ?_))
  refine SOps.st rfl rfl (Yv.assign rfl).yl ?_
  refine SOps.nil ?_
  refine Run.seq ?_
  refine Run.seq ?_
  refine Run.quiet (by intro h; cases h) ?_
  refine QOps.st rfl rfl (Yv.assign rfl).yl ?_
  refine QOps.nil ?_
  refine Run.block ?_
  refine Run.loop (S := Nat) (fun s => match s with | k => k ≤ rs.length ∧ ∀ i, i < k → badD rs i = false) (fun s => match s with | k => [(1, .pointer (some ⟨b1, 0, none⟩)), (3, .int .i64 (k : Int))]) (fun s => match s with | k => [.blk b1 29 [.slice A rs.length c, .int .i64 bd, .int .i64 nw]]) (fun s => match s with | k => rs.length - k) 0 ?_ (SubE.cons rfl (SubE.cons rfl (SubE.nil _))) (List.Sublist.refl _) ?_
  · exact ⟨by omega, fun i hi => by omega⟩
  · rintro k ⟨hk, hall⟩
    show Run _ _ _ _ _ [(1, .pointer (some ⟨b1, 0, none⟩)), (3, .int .i64 (k : Int))] [.blk b1 29 [.slice A rs.length c, .int .i64 bd, .int .i64 nw]] _
    refine Run.seq ?_
    refine Run.seq ?_
    refine Run.quiet (by intro h; cases h) ?_
    refine QOps.st rfl rfl (Yv.move rfl).yl ?_
    refine QOps.st rfl rfl (Yv.fieldAddr fld29_0 rfl).yl ?_
    refine QOps.st rfl rfl (Yv.loadB (i := 0) lay27 rfl rfl rfl rfl).yl ?_
    refine QOps.st rfl rfl (Yv.lenS el27s rfl).yl ?_
    refine QOps.st rfl rfl (Yv.lss rfl rfl).yl ?_
    refine QOps.nil ?_
    refine Run.cond rfl (fun hc1 => ?_) (fun hc1 => ?_)
    · try replace hc1 := of_decide_eq_true hc1
      refine Run.skip ?_
      refine Run.seq ?_
      refine Run.block ?_
      refine Run.seq ?_
      refine Run.ops ?_
      refine SOps.st rfl rfl (Yv.fieldAddr fld29_0 rfl).yl ?_
      refine SOps.st rfl rfl (Yv.loadB (i := 0) lay27 rfl rfl rfl rfl).yl ?_
      refine SOps.st rfl rfl (Yv.move rfl).yl ?_
      refine SOps.st rfl rfl (Yv.indexAddr k el27 rfl rfl rfl (Rd.arg hs) (by omega)).yl ?_
      refine SOps.st rfl rfl (Yv.loadEs lay74 rfl Rule.len (Rd.arg hs) (by first | omega | (simp; omega)) (by decide)).yl ?_
      refine SOps.one rfl (One.alloc rfl zero74 (fun b2 => ?_))
      refine SOps.one rfl (One.store (i := 0) (off := 0) (vs := [_, _, _]) (cs' := [_, _, _]) (H' := [_, _]) lay74 rfl rfl rfl rfl rfl rfl rfl rfl rfl rfl ?_)
      refine SOps.nil ?_
      refine Run.seq ?_
      refine Run.seq ?_
      refine Run.quiet (by intro h; cases h) ?_
      refine QOps.st rfl rfl (Yv.fieldAddr fld74_0 rfl).yl ?_
      refine QOps.st rfl rfl (Yv.loadB (i := 0) lay3 rfl rfl rfl rfl).yl ?_
      refine QOps.st rfl rfl (Yl.call callable77 (.cons rfl (.cons rfl (.cons rfl (.nil)))) (fun w' hw' => l1In_spec)) ?_
      refine QOps.st rfl rfl (Yv.not rfl).yl ?_
      refine QOps.st rfl rfl (Yv.move rfl).yl ?_
      refine' QOps.or [_, _, _, _] _ (.tmp 25) rfl rfl rfl rfl rfl rfl (fun hg1 => ?_) ?_
      rotate_left
      · try replace hg1 := of_decide_eq_false hg1
        refine QOps.st rfl rfl (Yv.fieldAddr fld74_1 rfl).yl ?_
        refine QOps.st rfl rfl (Yv.loadB (i := 0) lay3 rfl rfl rfl rfl).yl ?_
        refine QOps.st rfl rfl (Yl.call callable77 (.cons rfl (.cons rfl (.cons rfl (.nil)))) (fun w' hw' => l1In_spec)) ?_
        refine QOps.st rfl rfl (Yv.not rfl).yl ?_
        exact QOps.nil rfl
      refine QOps.nil ?_
      refine Run.cond rfl (fun hc2 => ?_) (fun hc2 => ?_)
      · try replace hc2 := of_decide_eq_true hc2
        refine Run.seq ?_
        refine Run.quiet (by intro h; cases h) ?_
        refine QOps.st rfl rfl (Yv.assign rfl).yl ?_
        refine QOps.nil ?_
        refine Run.ret ?_
        refine retQ.of (.inr rfl) rfl (.tmp rfl .nil) (fun w' hw' => ?_)
        refine ⟨?_, hw'.bel.below⟩
        refine retB_eq ?_
        rw [drought_bad (k := k) (by omega) (by unfold badD; rw [show rangeD (nth rs k) = true from hc2]; rfl)]
      · try replace hc2 := of_decide_eq_false hc2
        refine Run.skip ?_
        refine Run.seq ?_
        refine Run.quiet (fun _ => ⟨by kernel_rfl, by kernel_rfl⟩) ?_
        refine QOps.st rfl rfl (Yv.move rfl).yl ?_
        refine QOps.st rfl rfl (Yv.gtr rfl rfl).yl ?_
        refine QOps.st rfl rfl (Yv.move rfl).yl ?_
        refine' QOps.and [_, _, _, _, _, _, _, _, _, _, _, _, _, _, _, _, _, _, _, _, _, _, _, _, _, _, _, _, _, _, _, _, _, _, _, _] _ (.tmp 65) rfl rfl rfl rfl rfl rfl (fun hg2 => ?_) ?_
        rotate_left
        · try replace hg2 := of_decide_eq_true hg2
          refine QOps.st rfl rfl (Yv.fieldAddr fld29_0 rfl).yl ?_
          refine QOps.st rfl rfl (Yv.loadB (i := 1) lay27 rfl rfl rfl rfl).yl ?_
          refine QOps.st rfl rfl (Yv.move rfl).yl ?_
          refine QOps.st rfl rfl (Yv.sub rfl rfl (by omega)).yl ?_
          refine QOps.st rfl rfl (Yv.indexAddr (k - 1) el27 rfl rfl (by omega) (Rd.arg hs) (by omega)).yl ?_
          refine QOps.st rfl rfl (Yv.fieldAddr fld74_0 rfl).yl ?_
          refine QOps.st rfl rfl (Yv.loadF lay3 rfl Rule.len (Rd.arg hs) (by first | omega | (simp; omega)) (by decide) rfl).yl ?_
          refine QOps.st rfl rfl (Yv.fieldAddr fld74_0 rfl).yl ?_
          refine QOps.st rfl rfl (Yv.loadB (i := 0) lay3 rfl rfl rfl rfl).yl ?_
          refine QOps.st rfl rfl (Yv.leq rfl rfl).yl ?_
          refine QOps.st rfl rfl (Yv.move rfl).yl ?_
          refine' QOps.or [_, _, _, _, _, _, _, _, _, _] _ (.tmp 50) rfl rfl rfl rfl rfl rfl (fun hg3 => ?_) ?_
          rotate_left
          · try replace hg3 := of_decide_eq_false hg3
            refine QOps.st rfl rfl (Yv.fieldAddr fld29_0 rfl).yl ?_
            refine QOps.st rfl rfl (Yv.loadB (i := 1) lay27 rfl rfl rfl rfl).yl ?_
            refine QOps.st rfl rfl (Yv.move rfl).yl ?_
            refine QOps.st rfl rfl (Yv.sub rfl rfl (by omega)).yl ?_
            refine QOps.st rfl rfl (Yv.indexAddr (k - 1) el27 rfl rfl (by omega) (Rd.arg hs) (by omega)).yl ?_
            refine QOps.st rfl rfl (Yv.fieldAddr fld74_1 rfl).yl ?_
            refine QOps.st rfl rfl (Yv.loadF lay3 rfl Rule.len (Rd.arg hs) (by first | omega | (simp; omega)) (by decide) rfl).yl ?_
            refine QOps.st rfl rfl (Yv.fieldAddr fld74_1 rfl).yl ?_
            refine QOps.st rfl rfl (Yv.loadB (i := 0) lay3 rfl rfl rfl rfl).yl ?_
            refine QOps.st rfl rfl (Yv.lss rfl rfl).yl ?_
            exact QOps.nil rfl
          refine QOps.st rfl rfl (Yv.move rfl).yl ?_
          refine' QOps.or [_, _, _, _, _, _, _, _, _, _, _, _] _ (.tmp 64) rfl rfl rfl rfl rfl rfl (fun hg4 => ?_) ?_
          rotate_left
          · try replace hg4 := of_decide_eq_false hg4
            refine QOps.st rfl rfl (Yv.fieldAddr fld29_0 rfl).yl ?_
            refine QOps.st rfl rfl (Yv.loadB (i := 1) lay27 rfl rfl rfl rfl).yl ?_
            refine QOps.st rfl rfl (Yv.move rfl).yl ?_
            refine QOps.st rfl rfl (Yv.sub rfl rfl (by omega)).yl ?_
            refine QOps.st rfl rfl (Yv.indexAddr (k - 1) el27 rfl rfl (by omega) (Rd.arg hs) (by omega)).yl ?_
            refine QOps.st rfl rfl (Yv.fieldAddr fld74_2 rfl).yl ?_
            refine QOps.st rfl rfl (Yv.loadF lay4 rfl Rule.len (Rd.arg hs) (by first | omega | (simp; omega)) (by decide) rfl).yl ?_
            refine QOps.st rfl rfl (Yv.move rfl).yl ?_
            refine' QOps.and [_, _, _] _ (.tmp 63) rfl rfl rfl rfl rfl rfl (fun hg5 => ?_) ?_
            rotate_left
            · try replace hg5 := of_decide_eq_true hg5
              refine QOps.st rfl rfl (Yv.fieldAddr fld74_2 rfl).yl ?_
              refine QOps.st rfl rfl (Yv.loadB (i := 0) lay4 rfl rfl rfl rfl).yl ?_
              refine QOps.st rfl rfl (Yv.not rfl).yl ?_
              exact QOps.nil rfl
            exact QOps.nil rfl
          exact QOps.nil rfl
        refine QOps.nil ?_
        refine Run.cond rfl (fun hc3 => ?_) (fun hc3 => ?_)
        · try replace hc3 := of_decide_eq_true hc3
          refine Run.seq ?_
          refine Run.quiet (by intro h; cases h) ?_
          refine QOps.st rfl rfl (Yv.assign rfl).yl ?_
          refine QOps.nil ?_
          refine Run.ret ?_
          refine retQ.of (.inr rfl) rfl (.tmp rfl .nil) (fun w' hw' => ?_)
          refine ⟨?_, hw'.bel.below⟩
          refine retB_eq ?_
          rw [drought_bad (k := k) (by omega) (by unfold badD; rw [show (decide ((0 : Int) < (k : Int)) && fallsD (nth rs (k - 1)) (nth rs k)) = true from hc3]; simp)]
        · try replace hc3 := of_decide_eq_false hc3
          refine Run.skip ?_
          refine Run.quiet (by intro h; cases h) ?_
          refine QOps.st rfl rfl (Yv.move rfl).yl ?_
          refine QOps.st rfl rfl (Yv.succN rfl rfl (by omega)).yl ?_
          refine QOps.st rfl rfl (Yv.assign rfl).yl ?_
          refine QOps.nil ?_
          refine ⟨k + 1, ?_, ?_, (SubE.cons rfl (SubE.cons rfl (SubE.nil _))), (List.Sublist.cons _ (List.Sublist.refl _))⟩
          · exact ⟨by omega, all_succ hall (by unfold badD; rw [show rangeD (nth rs k) = false from hc2]; exact hc3)⟩
          · first | omega | (dsimp only; omega)
    · try replace hc1 := of_decide_eq_false hc1
      refine Run.exit ?_
      refine Run.seq ?_
      refine Run.quiet (by intro h; cases h) ?_
      refine QOps.st rfl rfl (Yv.fieldAddr fld29_0 rfl).yl ?_
      refine QOps.st rfl rfl (Yv.loadB (i := 0) lay27 rfl rfl rfl rfl).yl ?_
      refine QOps.st rfl rfl (Yv.lenS el27s rfl).yl ?_
      refine QOps.st rfl rfl (Yl.call callable77 (.cons rfl (.cons rfl (.cons rfl (.nil)))) (fun w' hw' => l1In_spec)) ?_
      refine QOps.st rfl rfl (Yv.move rfl).yl ?_
      refine' QOps.and [_, _, _] _ (.tmp 74) rfl rfl rfl rfl rfl rfl (fun hg6 => ?_) ?_
      rotate_left
      · try replace hg6 := of_decide_eq_true hg6
        refine QOps.st rfl rfl (Yv.fieldAddr fld29_1 rfl).yl ?_
        refine QOps.st rfl rfl (Yv.loadB (i := 0) lay3 rfl rfl rfl rfl).yl ?_
        refine QOps.st rfl rfl (Yl.call callable77 (.cons rfl (.cons rfl (.cons rfl (.nil)))) (fun w' hw' => l1In_spec)) ?_
        exact QOps.nil rfl
      refine QOps.st rfl rfl (Yv.move rfl).yl ?_
      refine' QOps.and [_, _, _, _, _, _] _ (.tmp 82) rfl rfl rfl rfl rfl rfl (fun hg7 => ?_) ?_
      rotate_left
      · try replace hg7 := of_decide_eq_true hg7
        refine QOps.st rfl rfl (Yv.fieldAddr fld29_2 rfl).yl ?_
        refine QOps.st rfl rfl (Yv.loadB (i := 0) lay3 rfl rfl rfl rfl).yl ?_
        refine QOps.st rfl rfl (Yv.fieldAddr fld29_0 rfl).yl ?_
        refine QOps.st rfl rfl (Yv.loadB (i := 0) lay27 rfl rfl rfl rfl).yl ?_
        refine QOps.st rfl rfl (Yv.lenS el27s rfl).yl ?_
        refine QOps.st rfl rfl (Yl.call callable77 (.cons rfl (.cons rfl (.cons rfl (.nil)))) (fun w' hw' => l1In_spec)) ?_
        exact QOps.nil rfl
      refine QOps.st rfl rfl (Yv.assign rfl).yl ?_
      refine QOps.nil ?_
      refine Run.ret ?_
      refine retQ.of (.inr rfl) rfl (.tmp rfl .nil) (fun w' hw' => ?_)
      refine ⟨?_, hw'.bel.below⟩
      refine retB_eq ?_
      rw [drought_good (fun i hi => hall i (by omega))]

theorem sIsDrought_spec {w : World} {A : Option Addr} {c : Nat} {rs : List Rule} {bd nw : Int} (hs : Sl w 3 A rs.length c (rs.flatMap Rule.enc)) : Calls Try.prog 10 #[.agg #[.slice A rs.length c, .int .i64 bd, .int .i64 nw]] w (RetB w (.bool (isDrought rs bd nw))) := by
  refine calls_of_run (vs := [_]) (L := [(0, _)]) (n := 5) (F := []) (H := []) Try.func10 rfl rfl rfl rfl (HOk.start _) ?_
  refine Run.seq ?_
  refine Run.ops ?_
  refine SOps.one rfl (One.box (cs := [_, _, _]) rfl rfl rfl (fun b1 => ?_))
  refine SOps.st rfl rfl (Yv.assign rfl).yl ?_
  refine SOps.nil ?_
  refine Run.seq ?_
  refine Run.quiet (by intro h; cases h) ?_
  refine QOps.st rfl rfl (Yv.loadBs (i := 0) lay29 rfl rfl rfl rfl).yl ?_
  refine QOps.st rfl rfl (Yl.call callable48 (.cons rfl (.nil)) (fun w' hw' => l23Good_spec ((Rd.arg hs) w' hw'))) ?_
  refine QOps.st rfl rfl (Yv.assign rfl).yl ?_
  refine QOps.nil ?_
  refine Run.ret ?_
  refine retQ.of (.inr rfl) rfl (.tmp rfl .nil) (fun w' hw' => ?_)
  refine ⟨?_, hw'.bel.below⟩
  exact rfl

/-- How many of the first k rules are for a level above one. -/
def stageTo (rs : List Rule) (lv : Int) : Nat → Int
  | 0 => 0
  | k + 1 => if lv < (nth rs k).below then stageTo rs lv k + 1 else stageTo rs lv k
theorem stageAt_spec {w : World} {A : Option Addr} {c : Nat} {rs : List Rule} {bd nw : Int} {lv : Int} (hs : Sl w 3 A rs.length c (rs.flatMap Rule.enc)) : Calls Try.prog 58 #[.agg #[.slice A rs.length c, .int .i64 bd, .int .i64 nw], .int .i64 lv] w (RetB w (.int .i64 (stageTo rs lv rs.length))) := by
  have hmx := Sl.lenle hs
  refine calls_of_run (vs := [_, _]) (L := [(0, _), (1, _)]) (n := 23) (F := []) (H := []) Try.func58 rfl rfl rfl rfl (HOk.start _) ?_
  refine Run.seq ?_
  refine Run.ops ?_
  refine SOps.one rfl (One.box (cs := [_, _, _]) rfl rfl rfl (fun b1 => ?_))
  refine SOps.st rfl rfl (Yv.assign rfl).yl ?_
  refine SOps.nil ?_
  refine Run.seq ?_
  refine Run.quiet (by intro h; cases h) ?_
  refine QOps.st rfl rfl (Yv.assign rfl).yl ?_
  refine QOps.nil ?_
  refine Run.seq ?_
  refine Run.seq ?_
  refine Run.quiet (by intro h; cases h) ?_
  refine QOps.st rfl rfl (Yv.fieldAddr fld29_0 rfl).yl ?_
  refine QOps.st rfl rfl (Yv.loadB (i := 0) lay27 rfl rfl rfl rfl).yl ?_
  refine QOps.st rfl rfl (Yv.lenS el27s rfl).yl ?_
  refine QOps.st rfl rfl (Yv.move rfl).yl ?_
  refine QOps.nil ?_
  refine Run.block ?_
  refine Run.loop (S := Nat × Int) (fun s => match s with | (k, v) => k ≤ rs.length ∧ 0 ≤ v ∧ v ≤ (k : Int) ∧ v = stageTo rs lv k) (fun s => match s with | (k, v) => [(1, .int .i64 lv), (5, .int .i64 v), (9, .slice A rs.length c), (10, .int .i64 (rs.length : Int)), (11, .int .i64 (k : Int))]) (fun s => match s with | (k, v) => [.blk b1 29 [.slice A rs.length c, .int .i64 bd, .int .i64 nw]]) (fun s => match s with | (k, v) => rs.length - k) (0, 0) ?_ (SubE.cons rfl (SubE.cons rfl (SubE.cons rfl (SubE.cons rfl (SubE.cons rfl (SubE.nil _)))))) (List.Sublist.refl _) ?_
  · exact ⟨by omega, by omega, by simp, rfl⟩
  · rintro ⟨k, v⟩ ⟨hk, hv0, hv1, hv⟩
    show Run _ _ _ _ _ [(1, .int .i64 lv), (5, .int .i64 v), (9, .slice A rs.length c), (10, .int .i64 (rs.length : Int)), (11, .int .i64 (k : Int))] [.blk b1 29 [.slice A rs.length c, .int .i64 bd, .int .i64 nw]] _
    refine Run.seq ?_
    refine Run.quiet (by intro h; cases h) ?_
    refine QOps.st rfl rfl (Yv.lss rfl rfl).yl ?_
    refine QOps.nil ?_
    refine Run.seq ?_
    refine Run.cond rfl (fun hc1 => ?_) (fun hc1 => ?_)
    · try replace hc1 := of_decide_eq_true hc1
      refine Run.skip ?_
      refine Run.seq ?_
      refine Run.block ?_
      refine Run.seq ?_
      refine Run.ops ?_
      refine SOps.st rfl rfl (Yv.indexAddr k el27 rfl rfl rfl (Rd.arg hs) (by omega)).yl ?_
      refine SOps.st rfl rfl (Yv.loadEs lay74 rfl Rule.len (Rd.arg hs) (by first | omega | (simp; omega)) (by decide)).yl ?_
      refine SOps.one rfl (One.alloc rfl zero74 (fun b2 => ?_))
      refine SOps.one rfl (One.store (i := 0) (off := 0) (vs := [_, _, _]) (cs' := [_, _, _]) (H' := [_, _]) lay74 rfl rfl rfl rfl rfl rfl rfl rfl rfl rfl ?_)
      refine SOps.nil ?_
      refine Run.seq ?_
      refine Run.quiet (by intro h; cases h) ?_
      refine QOps.st rfl rfl (Yv.move rfl).yl ?_
      refine QOps.st rfl rfl (Yv.fieldAddr fld74_0 rfl).yl ?_
      refine QOps.st rfl rfl (Yv.loadB (i := 0) lay3 rfl rfl rfl rfl).yl ?_
      refine QOps.st rfl rfl (Yv.lss rfl rfl).yl ?_
      refine QOps.nil ?_
      refine Run.cond rfl (fun hc2 => ?_) (fun hc2 => ?_)
      · try replace hc2 := of_decide_eq_true hc2
        refine Run.quiet (by intro h; cases h) ?_
        refine QOps.st rfl rfl (Yv.move rfl).yl ?_
        refine QOps.st rfl rfl (Yv.add rfl rfl (by omega)).yl ?_
        refine QOps.st rfl rfl (Yv.assign rfl).yl ?_
        refine QOps.nil ?_
        refine Run.quiet (by intro h; cases h) ?_
        refine QOps.st rfl rfl (Yv.succN rfl rfl (by omega)).yl ?_
        refine QOps.st rfl rfl (Yv.move rfl).yl ?_
        refine QOps.nil ?_
        refine ⟨(k + 1, _), ?_, ?_, (SubE.cons rfl (SubE.cons rfl (SubE.cons rfl (SubE.cons rfl (SubE.cons rfl (SubE.nil _)))))), (List.Sublist.cons _ (List.Sublist.refl _))⟩
        · exact ⟨by omega, by omega, by omega, by rw [stageTo, if_pos hc2, hv]⟩
        · first | omega | (dsimp only; omega)
      · try replace hc2 := of_decide_eq_false hc2
        refine Run.skip ?_
        refine Run.quiet (by intro h; cases h) ?_
        refine QOps.st rfl rfl (Yv.succN rfl rfl (by omega)).yl ?_
        refine QOps.st rfl rfl (Yv.move rfl).yl ?_
        refine QOps.nil ?_
        refine ⟨(k + 1, v), ?_, ?_, (SubE.cons rfl (SubE.cons rfl (SubE.cons rfl (SubE.cons rfl (SubE.cons rfl (SubE.nil _)))))), (List.Sublist.cons _ (List.Sublist.refl _))⟩
        · exact ⟨by omega, by omega, by omega, by rw [stageTo, if_neg hc2, hv]⟩
        · first | omega | (dsimp only; omega)
    · try replace hc1 := of_decide_eq_false hc1
      refine Run.exit ?_
      refine Run.seq ?_
      refine Run.quiet (by intro h; cases h) ?_
      refine QOps.st rfl rfl (Yv.move rfl).yl ?_
      refine QOps.st rfl rfl (Yv.assign rfl).yl ?_
      refine QOps.nil ?_
      refine Run.ret ?_
      obtain rfl : k = rs.length := by omega
      subst hv
      refine retQ.of (.inr rfl) rfl (.tmp rfl .nil) (fun w' hw' => ?_)
      refine ⟨?_, hw'.bel.below⟩
      exact rfl

theorem l23Stage_spec {w : World} {A : Option Addr} {c : Nat} {rs : List Rule} {bd nw : Int} {lv : Int} (hs : Sl w 3 A rs.length c (rs.flatMap Rule.enc)) : Calls Try.prog 56 #[.agg #[.slice A rs.length c, .int .i64 bd, .int .i64 nw], .int .i64 lv] w (RetB w (.int .i64 (stageTo rs lv rs.length))) := by
  have hmx := Sl.lenle hs
  refine calls_of_run (vs := [_, _]) (L := [(0, _), (1, _)]) (n := 25) (F := []) (H := []) Try.func56 rfl rfl rfl rfl (HOk.start _) ?_
  refine Run.seq ?_
  refine Run.ops ?_
  refine SOps.one rfl (One.box (cs := [_, _, _]) rfl rfl rfl (fun b1 => ?_))
  refine SOps.st rfl rfl (Yv.assign rfl).yl ?_
  refine SOps.nil ?_
  refine Run.seq ?_
  refine Run.quiet (by intro h; cases h) ?_
  refine QOps.st rfl rfl (Yv.assign rfl).yl ?_
  refine QOps.nil ?_
  refine Run.seq ?_
  refine Run.seq ?_
  refine Run.quiet (by intro h; cases h) ?_
  refine QOps.st rfl rfl (Yv.assign rfl).yl ?_
  refine QOps.nil ?_
  refine Run.block ?_
  refine Run.loop (S := Nat × Int) (fun s => match s with | (k, v) => k ≤ rs.length ∧ 0 ≤ v ∧ v ≤ (k : Int) ∧ v = stageTo rs lv k) (fun s => match s with | (k, v) => [(1, .int .i64 lv), (2, .pointer (some ⟨b1, 0, none⟩)), (5, .int .i64 v), (6, .int .i64 (k : Int))]) (fun s => match s with | (k, v) => [.blk b1 29 [.slice A rs.length c, .int .i64 bd, .int .i64 nw]]) (fun s => match s with | (k, v) => rs.length - k) (0, 0) ?_ (SubE.cons rfl (SubE.cons rfl (SubE.cons rfl (SubE.cons rfl (SubE.nil _))))) (List.Sublist.refl _) ?_
  · exact ⟨by omega, by omega, by simp, rfl⟩
  · rintro ⟨k, v⟩ ⟨hk, hv0, hv1, hv⟩
    show Run _ _ _ _ _ [(1, .int .i64 lv), (2, .pointer (some ⟨b1, 0, none⟩)), (5, .int .i64 v), (6, .int .i64 (k : Int))] [.blk b1 29 [.slice A rs.length c, .int .i64 bd, .int .i64 nw]] _
    refine Run.seq ?_
    refine Run.seq ?_
    refine Run.quiet (by intro h; cases h) ?_
    refine QOps.st rfl rfl (Yv.move rfl).yl ?_
    refine QOps.st rfl rfl (Yv.fieldAddr fld29_0 rfl).yl ?_
    refine QOps.st rfl rfl (Yv.loadB (i := 0) lay27 rfl rfl rfl rfl).yl ?_
    refine QOps.st rfl rfl (Yv.lenS el27s rfl).yl ?_
    refine QOps.st rfl rfl (Yv.lss rfl rfl).yl ?_
    refine QOps.nil ?_
    refine Run.cond rfl (fun hc1 => ?_) (fun hc1 => ?_)
    · try replace hc1 := of_decide_eq_true hc1
      refine Run.skip ?_
      refine Run.seq ?_
      refine Run.block ?_
      refine Run.seq ?_
      refine Run.quiet (by intro h; cases h) ?_
      refine QOps.st rfl rfl (Yv.move rfl).yl ?_
      refine QOps.st rfl rfl (Yv.fieldAddr fld29_0 rfl).yl ?_
      refine QOps.st rfl rfl (Yv.loadB (i := 0) lay27 rfl rfl rfl rfl).yl ?_
      refine QOps.st rfl rfl (Yv.move rfl).yl ?_
      refine QOps.st rfl rfl (Yv.indexAddr k el27 rfl rfl rfl (Rd.arg hs) (by omega)).yl ?_
      refine QOps.st rfl rfl (Yv.fieldAddr fld74_0 rfl).yl ?_
      refine QOps.st rfl rfl (Yv.loadF lay3 rfl Rule.len (Rd.arg hs) (by first | omega | (simp; omega)) (by decide) rfl).yl ?_
      refine QOps.st rfl rfl (Yv.lss rfl rfl).yl ?_
      refine QOps.nil ?_
      refine Run.cond rfl (fun hc2 => ?_) (fun hc2 => ?_)
      · try replace hc2 := of_decide_eq_true hc2
        refine Run.quiet (by intro h; cases h) ?_
        refine QOps.st rfl rfl (Yv.move rfl).yl ?_
        refine QOps.st rfl rfl (Yv.add rfl rfl (by omega)).yl ?_
        refine QOps.st rfl rfl (Yv.assign rfl).yl ?_
        refine QOps.nil ?_
        refine Run.quiet (by intro h; cases h) ?_
        refine QOps.st rfl rfl (Yv.move rfl).yl ?_
        refine QOps.st rfl rfl (Yv.succN rfl rfl (by omega)).yl ?_
        refine QOps.st rfl rfl (Yv.assign rfl).yl ?_
        refine QOps.nil ?_
        refine ⟨(k + 1, _), ?_, ?_, (SubE.cons rfl (SubE.cons rfl (SubE.cons rfl (SubE.cons rfl (SubE.nil _))))), (List.Sublist.refl _)⟩
        · exact ⟨by omega, by omega, by omega, by rw [stageTo, if_pos hc2, hv]⟩
        · first | omega | (dsimp only; omega)
      · try replace hc2 := of_decide_eq_false hc2
        refine Run.skip ?_
        refine Run.quiet (by intro h; cases h) ?_
        refine QOps.st rfl rfl (Yv.move rfl).yl ?_
        refine QOps.st rfl rfl (Yv.succN rfl rfl (by omega)).yl ?_
        refine QOps.st rfl rfl (Yv.assign rfl).yl ?_
        refine QOps.nil ?_
        refine ⟨(k + 1, v), ?_, ?_, (SubE.cons rfl (SubE.cons rfl (SubE.cons rfl (SubE.cons rfl (SubE.nil _))))), (List.Sublist.refl _)⟩
        · exact ⟨by omega, by omega, by omega, by rw [stageTo, if_neg hc2, hv]⟩
        · first | omega | (dsimp only; omega)
    · try replace hc1 := of_decide_eq_false hc1
      refine Run.exit ?_
      refine Run.seq ?_
      refine Run.quiet (by intro h; cases h) ?_
      refine QOps.st rfl rfl (Yv.move rfl).yl ?_
      refine QOps.st rfl rfl (Yv.assign rfl).yl ?_
      refine QOps.nil ?_
      refine Run.ret ?_
      obtain rfl : k = rs.length := by omega
      subst hv
      refine retQ.of (.inr rfl) rfl (.tmp rfl .nil) (fun w' hw' => ?_)
      refine ⟨?_, hw'.bel.below⟩
      exact rfl

/-- The rule in force in a stage. -/
def forceOf (rs : List Rule) (n : Int) : Rule := if n = 0 then ⟨0, 500, false⟩ else nth rs (n - 1).toNat
theorem retA_eq {cs cs' : Array Value} (h : cs = cs') : Ending.returned (single [.agg cs]) = .returned (.agg cs') := by rw [h]; rfl
theorem inForce_spec {w : World} {A : Option Addr} {c : Nat} {rs : List Rule} {bd nw n : Int} (hs : Sl w 3 A rs.length c (rs.flatMap Rule.enc)) (h1 : 0 ≤ n) (h2 : n ≤ rs.length) :
    Calls Try.prog 53 #[.agg #[.slice A rs.length c, .int .i64 bd, .int .i64 nw], .int .i64 n] w (RetB w (.agg (forceOf rs n).enc.toArray)) := by
  have hmx := Sl.lenle hs
  refine calls_of_run (vs := [_, _]) (L := [(0, _), (1, _)]) (n := 14) (F := []) (H := []) Try.func53 rfl rfl rfl rfl (HOk.start _) ?_
  refine Run.seq ?_
  refine Run.ops ?_
  refine SOps.one rfl (One.box (cs := [_, _, _]) rfl rfl rfl (fun b1 => ?_))
  refine SOps.one rfl (One.alloc rfl zero74 (fun b2 => ?_))
  refine SOps.nil ?_
  refine Run.seq ?_
  refine Run.seq ?_
  refine Run.quiet (by intro h; cases h) ?_
  refine QOps.st rfl rfl (Yv.move rfl).yl ?_
  refine QOps.st rfl rfl (Yv.eqI rfl rfl).yl ?_
  refine QOps.nil ?_
  refine Run.cond rfl (fun hc1 => ?_) (fun hc1 => ?_)
  · try replace hc1 := of_decide_eq_true hc1
    refine Run.seq ?_
    refine Run.ops ?_
    refine SOps.st rfl rfl (Yv.buildG (pv := [(1, _)]) (cs := [_, _, _]) (fun l => match l with | [a0_0] => [.int .i64 0, a0_0, .bool false] | _ => []) (.cons rfl (.nil)) rfl rfl (by kernel_rfl)).yl ?_
    refine SOps.one rfl (One.store (i := 0) (off := 0) (vs := [_, _, _]) (cs' := [_, _, _]) (H' := [_, _]) lay74 rfl rfl rfl rfl rfl rfl rfl rfl rfl rfl ?_)
    refine SOps.nil ?_
    refine Run.ret ?_
    refine retQ.of (.inr rfl) rfl (.cells (i := 0) rfl lay74 rfl rfl .nil) (fun w' hw' => ?_)
    refine ⟨?_, hw'.bel.below⟩
    refine retA_eq ?_
    unfold forceOf; rw [if_pos hc1]; rfl
  · try replace hc1 := of_decide_eq_false hc1
    refine Run.skip ?_
    refine Run.seq ?_
    refine Run.ops ?_
    refine SOps.st rfl rfl (Yv.fieldAddr fld29_0 rfl).yl ?_
    refine SOps.st rfl rfl (Yv.loadB (i := 1) lay27 rfl rfl rfl rfl).yl ?_
    refine SOps.st rfl rfl (Yv.move rfl).yl ?_
    refine SOps.st rfl rfl (Yv.sub rfl rfl (by omega)).yl ?_
    refine SOps.st rfl rfl (Yv.indexAddr (n - 1).toNat el27 rfl rfl (by omega) (Rd.arg hs) (by omega)).yl ?_
    refine SOps.st rfl rfl (Yv.loadEs lay74 rfl Rule.len (Rd.arg hs) (by first | omega | (simp; omega)) (by decide)).yl ?_
    refine SOps.one rfl (One.store (i := 0) (off := 0) (vs := [_, _, _]) (cs' := [_, _, _]) (H' := [_, _]) lay74 rfl rfl rfl rfl rfl rfl rfl rfl rfl rfl ?_)
    refine SOps.nil ?_
    refine Run.ret ?_
    refine retQ.of (.inr rfl) rfl (.cells (i := 0) rfl lay74 rfl rfl .nil) (fun w' hw' => ?_)
    refine ⟨?_, hw'.bel.below⟩
    refine retA_eq ?_
    unfold forceOf; rw [if_neg hc1]; rfl
theorem l23Draught_spec {w : World} {A : Option Addr} {c : Nat} {rs : List Rule} {bd nw n : Int} (hs : Sl w 3 A rs.length c (rs.flatMap Rule.enc)) (h1 : 0 ≤ n) (h2 : n ≤ rs.length) :
    Calls Try.prog 54 #[.agg #[.slice A rs.length c, .int .i64 bd, .int .i64 nw], .int .i64 n] w (RetB w (.int .i64 (forceOf rs n).draught)) := by
  have hmx := Sl.lenle hs
  refine calls_of_run (vs := [_, _]) (L := [(0, _), (1, _)]) (n := 14) (F := []) (H := []) Try.func54 rfl rfl rfl rfl (HOk.start _) ?_
  refine Run.seq ?_
  refine Run.ops ?_
  refine SOps.one rfl (One.box (cs := [_, _, _]) rfl rfl rfl (fun b1 => ?_))
  refine SOps.st rfl rfl (Yv.assign rfl).yl ?_
  refine SOps.nil ?_
  refine Run.seq ?_
  refine Run.seq ?_
  refine Run.quiet (by intro h; cases h) ?_
  refine QOps.st rfl rfl (Yv.move rfl).yl ?_
  refine QOps.st rfl rfl (Yv.eqI rfl rfl).yl ?_
  refine QOps.nil ?_
  refine Run.cond rfl (fun hc1 => ?_) (fun hc1 => ?_)
  · try replace hc1 := of_decide_eq_true hc1
    refine Run.seq ?_
    refine Run.quiet (by intro h; cases h) ?_
    refine QOps.st rfl rfl (Yv.assign rfl).yl ?_
    refine QOps.nil ?_
    refine Run.ret ?_
    refine retQ.of (.inr rfl) rfl (.tmp rfl .nil) (fun w' hw' => ?_)
    refine ⟨?_, hw'.bel.below⟩
    refine retI_eq ?_
    unfold forceOf; rw [if_pos hc1]
  · try replace hc1 := of_decide_eq_false hc1
    refine Run.skip ?_
    refine Run.seq ?_
    refine Run.quiet (by intro h; cases h) ?_
    refine QOps.st rfl rfl (Yv.fieldAddr fld29_0 rfl).yl ?_
    refine QOps.st rfl rfl (Yv.loadB (i := 0) lay27 rfl rfl rfl rfl).yl ?_
    refine QOps.st rfl rfl (Yv.move rfl).yl ?_
    refine QOps.st rfl rfl (Yv.sub rfl rfl (by omega)).yl ?_
    refine QOps.st rfl rfl (Yv.indexAddr (n - 1).toNat el27 rfl rfl (by omega) (Rd.arg hs) (by omega)).yl ?_
    refine QOps.st rfl rfl (Yv.fieldAddr fld74_1 rfl).yl ?_
    refine QOps.st rfl rfl (Yv.loadF lay3 rfl Rule.len (Rd.arg hs) (by first | omega | (simp; omega)) (by decide) rfl).yl ?_
    refine QOps.st rfl rfl (Yv.assign rfl).yl ?_
    refine QOps.nil ?_
    refine Run.ret ?_
    refine retQ.of (.inr rfl) rfl (.tmp rfl .nil) (fun w' hw' => ?_)
    refine ⟨?_, hw'.bel.below⟩
    refine retI_eq ?_
    unfold forceOf; rw [if_neg hc1]
def stageOf (rs : List Rule) (bd nw lv : Int) : Int × Bool := if (isDrought rs bd nw && inB lv 0 2000) = true then (stageTo rs lv rs.length, true) else (0, false)
def draughtOf (rs : List Rule) (bd nw : Int) : Int × Bool := if isDrought rs bd nw = true then ((forceOf rs nw).draught, true) else (0, false)
def halfOf (rs : List Rule) (bd nw : Int) : Bool × Bool := if isDrought rs bd nw = true then ((forceOf rs nw).half, true) else (false, false)
theorem StageAt_spec {w : World} {A : Option Addr} {c : Nat} {rs : List Rule} {bd nw : Int} {lv : Int} (hs : Sl w 3 A rs.length c (rs.flatMap Rule.enc)) : Calls Try.prog 19 #[.agg #[.slice A rs.length c, .int .i64 bd, .int .i64 nw], .int .i64 lv] w (RetB w (.tuple #[.int .i64 (stageOf rs bd nw lv).1, .bool (stageOf rs bd nw lv).2])) := by
  refine calls_of_run (vs := [_, _]) (L := [(0, _), (1, _)]) (n := 17) (F := []) (H := []) Try.func19 rfl rfl rfl rfl (HOk.start _) ?_
  refine Run.seq ?_
  refine Run.ops ?_
  refine SOps.one rfl (One.box (cs := [_, _, _]) rfl rfl rfl (fun b1 => ?_))
  refine SOps.st rfl rfl (Yv.assign rfl).yl ?_
  refine SOps.st rfl rfl (Yv.assign rfl).yl ?_
  refine SOps.nil ?_
  refine Run.seq ?_
  refine Run.seq ?_
  refine Run.quiet (by intro h; cases h) ?_
  refine QOps.st rfl rfl (Yv.loadBs (i := 0) lay29 rfl rfl rfl rfl).yl ?_
  refine QOps.st rfl rfl (Yl.call callable12 (.cons rfl (.nil)) (fun w' hw' => IsDrought_spec ((Rd.arg hs) w' hw'))) ?_
  refine QOps.st rfl rfl (Yv.not rfl).yl ?_
  refine QOps.st rfl rfl (Yv.move rfl).yl ?_
  refine' QOps.or [_, _, _] _ (.tmp 12) rfl rfl rfl rfl rfl rfl (fun hg1 => ?_) ?_
  rotate_left
  · try replace hg1 := of_decide_eq_false hg1
    refine QOps.st rfl rfl (Yv.move rfl).yl ?_
    refine QOps.st rfl rfl (Yl.call callable57 (.cons rfl (.nil)) (fun w' hw' => isGauge_spec)) ?_
    refine QOps.st rfl rfl (Yv.not rfl).yl ?_
    exact QOps.nil rfl
  refine QOps.nil ?_
  refine Run.cond rfl (fun hc1 => ?_) (fun hc1 => ?_)
  · try replace hc1 := of_decide_eq_true hc1
    have hn : ¬ (isDrought rs bd nw && inB lv 0 2000) = true := by revert hc1; cases isDrought rs bd nw <;> cases inB lv 0 2000 <;> simp
    refine Run.seq ?_
    refine Run.quiet (by intro h; cases h) ?_
    refine QOps.st rfl rfl (Yv.assign rfl).yl ?_
    refine QOps.st rfl rfl (Yv.assign rfl).yl ?_
    refine QOps.nil ?_
    refine Run.ret ?_
    refine retQ.of (.inr rfl) rfl (.tmp rfl (.tmp rfl .nil)) (fun w' hw' => ?_)
    refine ⟨?_, hw'.bel.below⟩
    unfold stageOf; rw [if_neg hn]; rfl
  · try replace hc1 := of_decide_eq_false hc1
    have hy : (isDrought rs bd nw && inB lv 0 2000) = true := by revert hc1; cases isDrought rs bd nw <;> cases inB lv 0 2000 <;> simp
    refine Run.skip ?_
    refine Run.seq ?_
    refine Run.quiet (by intro h; cases h) ?_
    refine QOps.st rfl rfl (Yv.loadBs (i := 0) lay29 rfl rfl rfl rfl).yl ?_
    refine QOps.st rfl rfl (Yv.move rfl).yl ?_
    refine QOps.st rfl rfl (Yl.call callable58 (.cons rfl (.cons rfl (.nil))) (fun w' hw' => stageAt_spec ((Rd.arg hs) w' hw'))) ?_
    refine QOps.st rfl rfl (Yv.assign rfl).yl ?_
    refine QOps.st rfl rfl (Yv.assign rfl).yl ?_
    refine QOps.nil ?_
    refine Run.ret ?_
    refine retQ.of (.inr rfl) rfl (.tmp rfl (.tmp rfl .nil)) (fun w' hw' => ?_)
    refine ⟨?_, hw'.bel.below⟩
    unfold stageOf; rw [if_pos hy]; rfl
theorem AllowedDraught_spec {w : World} {A : Option Addr} {c : Nat} {rs : List Rule} {bd nw : Int} (hs : Sl w 3 A rs.length c (rs.flatMap Rule.enc)) : Calls Try.prog 17 #[.agg #[.slice A rs.length c, .int .i64 bd, .int .i64 nw]] w (RetB w (.tuple #[.int .i64 (draughtOf rs bd nw).1, .bool (draughtOf rs bd nw).2])) := by
  have hmx := Sl.lenle hs
  refine calls_of_run (vs := [_]) (L := [(0, _)]) (n := 12) (F := []) (H := []) Try.func17 rfl rfl rfl rfl (HOk.start _) ?_
  refine Run.seq ?_
  refine Run.ops ?_
  refine SOps.one rfl (One.box (cs := [_, _, _]) rfl rfl rfl (fun b1 => ?_))
  refine SOps.st rfl rfl (Yv.assign rfl).yl ?_
  refine SOps.st rfl rfl (Yv.assign rfl).yl ?_
  refine SOps.nil ?_
  refine Run.seq ?_
  refine Run.seq ?_
  refine Run.quiet (by intro h; cases h) ?_
  refine QOps.st rfl rfl (Yv.loadBs (i := 0) lay29 rfl rfl rfl rfl).yl ?_
  refine QOps.st rfl rfl (Yl.call callable12 (.cons rfl (.nil)) (fun w' hw' => IsDrought_spec ((Rd.arg hs) w' hw'))) ?_
  refine QOps.st rfl rfl (Yv.not rfl).yl ?_
  refine QOps.nil ?_
  refine Run.cond rfl (fun hc1 => ?_) (fun hc1 => ?_)
  · try replace hc1 := of_decide_eq_true hc1
    have hn : ¬ isDrought rs bd nw = true := by simpa using hc1
    refine Run.seq ?_
    refine Run.quiet (by intro h; cases h) ?_
    refine QOps.st rfl rfl (Yv.assign rfl).yl ?_
    refine QOps.st rfl rfl (Yv.assign rfl).yl ?_
    refine QOps.nil ?_
    refine Run.ret ?_
    refine retQ.of (.inr rfl) rfl (.tmp rfl (.tmp rfl .nil)) (fun w' hw' => ?_)
    refine ⟨?_, hw'.bel.below⟩
    unfold draughtOf; rw [if_neg hn]; rfl
  · try replace hc1 := of_decide_eq_false hc1
    have hy : isDrought rs bd nw = true := by simpa using hc1
    have hnw := drought_now hy
    refine Run.skip ?_
    refine Run.seq ?_
    refine Run.quiet (by intro h; cases h) ?_
    refine QOps.st rfl rfl (Yv.loadBs (i := 0) lay29 rfl rfl rfl rfl).yl ?_
    refine QOps.st rfl rfl (Yv.fieldAddr fld29_2 rfl).yl ?_
    refine QOps.st rfl rfl (Yv.loadB (i := 0) lay3 rfl rfl rfl rfl).yl ?_
    refine QOps.st rfl rfl (Yl.call callable53 (.cons rfl (.cons rfl (.nil))) (fun w' hw' => inForce_spec ((Rd.arg hs) w' hw') (by omega) (by omega))) ?_
    refine QOps.st rfl rfl (Yv.field Try.underlying74 rfl lay3 rfl rfl rfl).yl ?_
    refine QOps.st rfl rfl (Yv.assign rfl).yl ?_
    refine QOps.st rfl rfl (Yv.assign rfl).yl ?_
    refine QOps.nil ?_
    refine Run.ret ?_
    refine retQ.of (.inr rfl) rfl (.tmp rfl (.tmp rfl .nil)) (fun w' hw' => ?_)
    refine ⟨?_, hw'.bel.below⟩
    unfold draughtOf; rw [if_pos hy]; rfl
theorem IsHalved_spec {w : World} {A : Option Addr} {c : Nat} {rs : List Rule} {bd nw : Int} (hs : Sl w 3 A rs.length c (rs.flatMap Rule.enc)) : Calls Try.prog 15 #[.agg #[.slice A rs.length c, .int .i64 bd, .int .i64 nw]] w (RetB w (.tuple #[.bool (halfOf rs bd nw).1, .bool (halfOf rs bd nw).2])) := by
  have hmx := Sl.lenle hs
  refine calls_of_run (vs := [_]) (L := [(0, _)]) (n := 12) (F := []) (H := []) Try.func15 rfl rfl rfl rfl (HOk.start _) ?_
  refine Run.seq ?_
  refine Run.ops ?_
  refine SOps.one rfl (One.box (cs := [_, _, _]) rfl rfl rfl (fun b1 => ?_))
  refine SOps.st rfl rfl (Yv.assign rfl).yl ?_
  refine SOps.st rfl rfl (Yv.assign rfl).yl ?_
  refine SOps.nil ?_
  refine Run.seq ?_
  refine Run.seq ?_
  refine Run.quiet (by intro h; cases h) ?_
  refine QOps.st rfl rfl (Yv.loadBs (i := 0) lay29 rfl rfl rfl rfl).yl ?_
  refine QOps.st rfl rfl (Yl.call callable12 (.cons rfl (.nil)) (fun w' hw' => IsDrought_spec ((Rd.arg hs) w' hw'))) ?_
  refine QOps.st rfl rfl (Yv.not rfl).yl ?_
  refine QOps.nil ?_
  refine Run.cond rfl (fun hc1 => ?_) (fun hc1 => ?_)
  · try replace hc1 := of_decide_eq_true hc1
    have hn : ¬ isDrought rs bd nw = true := by simpa using hc1
    refine Run.seq ?_
    refine Run.quiet (by intro h; cases h) ?_
    refine QOps.st rfl rfl (Yv.assign rfl).yl ?_
    refine QOps.st rfl rfl (Yv.assign rfl).yl ?_
    refine QOps.nil ?_
    refine Run.ret ?_
    refine retQ.of (.inr rfl) rfl (.tmp rfl (.tmp rfl .nil)) (fun w' hw' => ?_)
    refine ⟨?_, hw'.bel.below⟩
    unfold halfOf; rw [if_neg hn]; rfl
  · try replace hc1 := of_decide_eq_false hc1
    have hy : isDrought rs bd nw = true := by simpa using hc1
    have hnw := drought_now hy
    refine Run.skip ?_
    refine Run.seq ?_
    refine Run.quiet (by intro h; cases h) ?_
    refine QOps.st rfl rfl (Yv.loadBs (i := 0) lay29 rfl rfl rfl rfl).yl ?_
    refine QOps.st rfl rfl (Yv.fieldAddr fld29_2 rfl).yl ?_
    refine QOps.st rfl rfl (Yv.loadB (i := 0) lay3 rfl rfl rfl rfl).yl ?_
    refine QOps.st rfl rfl (Yl.call callable53 (.cons rfl (.cons rfl (.nil))) (fun w' hw' => inForce_spec ((Rd.arg hs) w' hw') (by omega) (by omega))) ?_
    refine QOps.st rfl rfl (Yv.field Try.underlying74 rfl lay4 rfl rfl rfl).yl ?_
    refine QOps.st rfl rfl (Yv.assign rfl).yl ?_
    refine QOps.st rfl rfl (Yv.assign rfl).yl ?_
    refine QOps.nil ?_
    refine Run.ret ?_
    refine retQ.of (.inr rfl) rfl (.tmp rfl (.tmp rfl .nil)) (fun w' hw' => ?_)
    refine ⟨?_, hw'.bel.below⟩
    unfold halfOf; rw [if_pos hy]; rfl

theorem sStageAt_spec {w : World} {A : Option Addr} {c : Nat} {rs : List Rule} {bd nw : Int} {lv : Int} (hs : Sl w 3 A rs.length c (rs.flatMap Rule.enc)) : Calls Try.prog 18 #[.agg #[.slice A rs.length c, .int .i64 bd, .int .i64 nw], .int .i64 lv] w (RetB w (.tuple #[.int .i64 (stageOf rs bd nw lv).1, .bool (stageOf rs bd nw lv).2])) := by
  refine calls_of_run (vs := [_, _]) (L := [(0, _), (1, _)]) (n := 17) (F := []) (H := []) Try.func18 rfl rfl rfl rfl (HOk.start _) ?_
  refine Run.seq ?_
  refine Run.ops ?_
  refine SOps.one rfl (One.box (cs := [_, _, _]) rfl rfl rfl (fun b1 => ?_))
  refine SOps.st rfl rfl (Yv.assign rfl).yl ?_
  refine SOps.st rfl rfl (Yv.assign rfl).yl ?_
  refine SOps.nil ?_
  refine Run.seq ?_
  refine Run.seq ?_
  refine Run.quiet (by intro h; cases h) ?_
  refine QOps.st rfl rfl (Yv.loadBs (i := 0) lay29 rfl rfl rfl rfl).yl ?_
  refine QOps.st rfl rfl (Yl.call callable48 (.cons rfl (.nil)) (fun w' hw' => l23Good_spec ((Rd.arg hs) w' hw'))) ?_
  refine QOps.st rfl rfl (Yv.not rfl).yl ?_
  refine QOps.st rfl rfl (Yv.move rfl).yl ?_
  refine' QOps.or [_, _, _] _ (.tmp 12) rfl rfl rfl rfl rfl rfl (fun hg1 => ?_) ?_
  rotate_left
  · try replace hg1 := of_decide_eq_false hg1
    refine QOps.st rfl rfl (Yv.move rfl).yl ?_
    refine QOps.st rfl rfl (Yl.call callable55 (.cons rfl (.nil)) (fun w' hw' => l6Level_spec)) ?_
    refine QOps.st rfl rfl (Yv.not rfl).yl ?_
    exact QOps.nil rfl
  refine QOps.nil ?_
  refine Run.cond rfl (fun hc1 => ?_) (fun hc1 => ?_)
  · try replace hc1 := of_decide_eq_true hc1
    have hn : ¬ (isDrought rs bd nw && inB lv 0 2000) = true := by revert hc1; cases isDrought rs bd nw <;> cases inB lv 0 2000 <;> simp
    refine Run.seq ?_
    refine Run.quiet (by intro h; cases h) ?_
    refine QOps.st rfl rfl (Yv.assign rfl).yl ?_
    refine QOps.st rfl rfl (Yv.assign rfl).yl ?_
    refine QOps.nil ?_
    refine Run.ret ?_
    refine retQ.of (.inr rfl) rfl (.tmp rfl (.tmp rfl .nil)) (fun w' hw' => ?_)
    refine ⟨?_, hw'.bel.below⟩
    unfold stageOf; rw [if_neg hn]; rfl
  · try replace hc1 := of_decide_eq_false hc1
    have hy : (isDrought rs bd nw && inB lv 0 2000) = true := by revert hc1; cases isDrought rs bd nw <;> cases inB lv 0 2000 <;> simp
    refine Run.skip ?_
    refine Run.seq ?_
    refine Run.quiet (by intro h; cases h) ?_
    refine QOps.st rfl rfl (Yv.loadBs (i := 0) lay29 rfl rfl rfl rfl).yl ?_
    refine QOps.st rfl rfl (Yv.move rfl).yl ?_
    refine QOps.st rfl rfl (Yl.call callable56 (.cons rfl (.cons rfl (.nil))) (fun w' hw' => l23Stage_spec ((Rd.arg hs) w' hw'))) ?_
    refine QOps.st rfl rfl (Yv.assign rfl).yl ?_
    refine QOps.st rfl rfl (Yv.assign rfl).yl ?_
    refine QOps.nil ?_
    refine Run.ret ?_
    refine retQ.of (.inr rfl) rfl (.tmp rfl (.tmp rfl .nil)) (fun w' hw' => ?_)
    refine ⟨?_, hw'.bel.below⟩
    unfold stageOf; rw [if_pos hy]; rfl
theorem sAllowedDraught_spec {w : World} {A : Option Addr} {c : Nat} {rs : List Rule} {bd nw : Int} (hs : Sl w 3 A rs.length c (rs.flatMap Rule.enc)) : Calls Try.prog 16 #[.agg #[.slice A rs.length c, .int .i64 bd, .int .i64 nw]] w (RetB w (.tuple #[.int .i64 (draughtOf rs bd nw).1, .bool (draughtOf rs bd nw).2])) := by
  have hmx := Sl.lenle hs
  refine calls_of_run (vs := [_]) (L := [(0, _)]) (n := 11) (F := []) (H := []) Try.func16 rfl rfl rfl rfl (HOk.start _) ?_
  refine Run.seq ?_
  refine Run.ops ?_
  refine SOps.one rfl (One.box (cs := [_, _, _]) rfl rfl rfl (fun b1 => ?_))
  refine SOps.st rfl rfl (Yv.assign rfl).yl ?_
  refine SOps.st rfl rfl (Yv.assign rfl).yl ?_
  refine SOps.nil ?_
  refine Run.seq ?_
  refine Run.seq ?_
  refine Run.quiet (by intro h; cases h) ?_
  refine QOps.st rfl rfl (Yv.loadBs (i := 0) lay29 rfl rfl rfl rfl).yl ?_
  refine QOps.st rfl rfl (Yl.call callable48 (.cons rfl (.nil)) (fun w' hw' => l23Good_spec ((Rd.arg hs) w' hw'))) ?_
  refine QOps.st rfl rfl (Yv.not rfl).yl ?_
  refine QOps.nil ?_
  refine Run.cond rfl (fun hc1 => ?_) (fun hc1 => ?_)
  · try replace hc1 := of_decide_eq_true hc1
    have hn : ¬ isDrought rs bd nw = true := by simpa using hc1
    refine Run.seq ?_
    refine Run.quiet (by intro h; cases h) ?_
    refine QOps.st rfl rfl (Yv.assign rfl).yl ?_
    refine QOps.st rfl rfl (Yv.assign rfl).yl ?_
    refine QOps.nil ?_
    refine Run.ret ?_
    refine retQ.of (.inr rfl) rfl (.tmp rfl (.tmp rfl .nil)) (fun w' hw' => ?_)
    refine ⟨?_, hw'.bel.below⟩
    unfold draughtOf; rw [if_neg hn]; rfl
  · try replace hc1 := of_decide_eq_false hc1
    have hy : isDrought rs bd nw = true := by simpa using hc1
    have hnw := drought_now hy
    refine Run.skip ?_
    refine Run.seq ?_
    refine Run.quiet (by intro h; cases h) ?_
    refine QOps.st rfl rfl (Yv.loadBs (i := 0) lay29 rfl rfl rfl rfl).yl ?_
    refine QOps.st rfl rfl (Yv.fieldAddr fld29_2 rfl).yl ?_
    refine QOps.st rfl rfl (Yv.loadB (i := 0) lay3 rfl rfl rfl rfl).yl ?_
    refine QOps.st rfl rfl (Yl.call callable54 (.cons rfl (.cons rfl (.nil))) (fun w' hw' => l23Draught_spec ((Rd.arg hs) w' hw') (by omega) (by omega))) ?_
    refine QOps.st rfl rfl (Yv.assign rfl).yl ?_
    refine QOps.st rfl rfl (Yv.assign rfl).yl ?_
    refine QOps.nil ?_
    refine Run.ret ?_
    refine retQ.of (.inr rfl) rfl (.tmp rfl (.tmp rfl .nil)) (fun w' hw' => ?_)
    refine ⟨?_, hw'.bel.below⟩
    unfold draughtOf; rw [if_pos hy]; rfl
theorem sIsHalved_spec {w : World} {A : Option Addr} {c : Nat} {rs : List Rule} {bd nw : Int} (hs : Sl w 3 A rs.length c (rs.flatMap Rule.enc)) : Calls Try.prog 14 #[.agg #[.slice A rs.length c, .int .i64 bd, .int .i64 nw]] w (RetB w (.tuple #[.bool (halfOf rs bd nw).1, .bool (halfOf rs bd nw).2])) := by
  have hmx := Sl.lenle hs
  refine calls_of_run (vs := [_]) (L := [(0, _)]) (n := 20) (F := []) (H := []) Try.func14 rfl rfl rfl rfl (HOk.start _) ?_
  refine Run.seq ?_
  refine Run.ops ?_
  refine SOps.one rfl (One.box (cs := [_, _, _]) rfl rfl rfl (fun b1 => ?_))
  refine SOps.st rfl rfl (Yv.assign rfl).yl ?_
  refine SOps.st rfl rfl (Yv.assign rfl).yl ?_
  refine SOps.nil ?_
  refine Run.seq ?_
  refine Run.seq ?_
  refine Run.quiet (by intro h; cases h) ?_
  refine QOps.st rfl rfl (Yv.loadBs (i := 0) lay29 rfl rfl rfl rfl).yl ?_
  refine QOps.st rfl rfl (Yl.call callable48 (.cons rfl (.nil)) (fun w' hw' => l23Good_spec ((Rd.arg hs) w' hw'))) ?_
  refine QOps.st rfl rfl (Yv.not rfl).yl ?_
  refine QOps.nil ?_
  refine Run.cond rfl (fun hc1 => ?_) (fun hc1 => ?_)
  · try replace hc1 := of_decide_eq_true hc1
    have hn : ¬ isDrought rs bd nw = true := by simpa using hc1
    refine Run.seq ?_
    refine Run.quiet (by intro h; cases h) ?_
    refine QOps.st rfl rfl (Yv.assign rfl).yl ?_
    refine QOps.st rfl rfl (Yv.assign rfl).yl ?_
    refine QOps.nil ?_
    refine Run.ret ?_
    refine retQ.of (.inr rfl) rfl (.tmp rfl (.tmp rfl .nil)) (fun w' hw' => ?_)
    refine ⟨?_, hw'.bel.below⟩
    unfold halfOf; rw [if_neg hn]; rfl
  · try replace hc1 := of_decide_eq_false hc1
    have hy : isDrought rs bd nw = true := by simpa using hc1
    have hnw := drought_now hy
    refine Run.skip ?_
    refine Run.seq ?_
    refine Run.quiet (by intro h; cases h) ?_
    refine QOps.st rfl rfl (Yv.fieldAddr fld29_2 rfl).yl ?_
    refine QOps.st rfl rfl (Yv.loadB (i := 0) lay3 rfl rfl rfl rfl).yl ?_
    refine QOps.st rfl rfl (Yv.gtr rfl rfl).yl ?_
    refine QOps.st rfl rfl (Yv.move rfl).yl ?_
    refine' QOps.and [_, _, _, _, _, _, _, _] _ (.tmp 18) rfl rfl rfl rfl rfl rfl (fun hg1 => ?_) ?_
    rotate_left
    · try replace hg1 := of_decide_eq_true hg1
      refine QOps.st rfl rfl (Yv.fieldAddr fld29_0 rfl).yl ?_
      refine QOps.st rfl rfl (Yv.loadB (i := 0) lay27 rfl rfl rfl rfl).yl ?_
      refine QOps.st rfl rfl (Yv.fieldAddr fld29_2 rfl).yl ?_
      refine QOps.st rfl rfl (Yv.loadB (i := 0) lay3 rfl rfl rfl rfl).yl ?_
      refine QOps.st rfl rfl (Yv.sub rfl rfl (by omega)).yl ?_
      refine QOps.st rfl rfl (Yv.indexAddr (nw - 1).toNat el27 rfl rfl (by omega) (Rd.arg hs) (by omega)).yl ?_
      refine QOps.st rfl rfl (Yv.fieldAddr fld74_2 rfl).yl ?_
      refine QOps.st rfl rfl (Yv.loadF lay4 rfl Rule.len (Rd.arg hs) (by first | omega | (simp; omega)) (by decide) rfl).yl ?_
      exact QOps.nil rfl
    refine QOps.st rfl rfl (Yv.assign rfl).yl ?_
    refine QOps.st rfl rfl (Yv.assign rfl).yl ?_
    refine QOps.nil ?_
    refine Run.ret ?_
    refine retQ.of (.inr rfl) rfl (.tmp rfl (.tmp rfl .nil)) (fun w' hw' => ?_)
    refine ⟨?_, hw'.bel.below⟩
    unfold halfOf; rw [if_pos hy]; refine retBB_eq ?_ rfl; unfold forceOf; by_cases h0 : nw = 0
    · rw [if_pos h0, h0]; rfl
    · rw [if_neg h0, decide_eq_true (by omega)]; rfl

theorem FnExactIsDrought_spec {w : World} {A : Option Addr} {c : Nat} {rs : List Rule} {bd nw : Int}  (hs : Sl w 3 A rs.length c (rs.flatMap Rule.enc)) (hb : 24 * rs.length ≤ 281474976710656) :
    Calls Try.prog 3 #[.agg #[.slice A rs.length c, .int .i64 bd, .int .i64 nw]] w (RetB w (.bool true)) := by
  refine calls_of_run (vs := [_]) (L := [(0, _)]) (n := 27) (F := []) (H := []) Try.func3 rfl rfl rfl rfl (HOk.start _) ?_
  refine Run.seq ?_
  refine Run.ops ?_
  refine SOps.one rfl (One.box (cs := [_, _, _]) rfl rfl rfl (fun b1 => ?_))
  refine SOps.st rfl rfl (Yv.assign rfl).yl ?_
  refine SOps.nil ?_
  refine Run.seq ?_
  refine Run.quiet (by intro h; cases h) ?_
  refine QOps.st rfl rfl (Yv.assign rfl).yl ?_
  refine QOps.nil ?_
  refine Run.seq ?_
  refine Run.quiet (by intro h; cases h) ?_
  refine QOps.st rfl rfl (Yv.loadBs (i := 0) lay24 rfl rfl rfl rfl).yl ?_
  refine QOps.st rfl rfl (Yv.move rfl).yl ?_
  refine QOps.st rfl rfl (Yl.call callable9 (.cons rfl (.cons rfl (.nil))) (fun w' hw' => szDrought_spec (by omega) (by omega) (by omega))) ?_
  refine QOps.st rfl rfl (Yv.assign rfl).yl ?_
  refine QOps.nil ?_
  refine Run.seq ?_
  refine Run.seq ?_
  refine Run.quiet (by intro h; cases h) ?_
  refine QOps.st rfl rfl (Yv.move rfl).yl ?_
  refine QOps.st rfl rfl (Yv.lss rfl rfl).yl ?_
  refine QOps.nil ?_
  refine Run.cond rfl (fun hc1 => ?_) (fun hc1 => ?_)
  · try replace hc1 := of_decide_eq_true hc1
    refine Run.seq ?_
    refine Run.quiet (by intro h; cases h) ?_
    refine QOps.st rfl rfl (Yv.assign rfl).yl ?_
    refine QOps.nil ?_
    refine Run.ret ?_
    refine retQ.of (.inr rfl) rfl (.tmp rfl .nil) (fun w' hw' => ?_)
    refine ⟨?_, hw'.bel.below⟩
    exact rfl
  · try replace hc1 := of_decide_eq_false hc1
    refine Run.skip ?_
    refine Run.seq ?_
    refine Run.ops ?_
    refine SOps.st rfl rfl (Yv.loadBs (i := 0) lay24 rfl rfl rfl rfl).yl ?_
    refine SOps.one rfl (One.callRow rfl callable11 (.cons rfl (.nil)) (fun w' hw' => toDrought_spec ((Rd.arg hs) w' hw') (by omega)) (fun A1 c1 => ?_))
    refine SOps.st rfl rfl (Yl.call callable10 (.cons rfl (.nil)) (fun w' hw' => sIsDrought_spec ((Rd.row (i := 0) rfl) w' hw'))) ?_
    refine SOps.st rfl rfl (Yv.assign rfl).yl ?_
    refine SOps.nil ?_
    refine Run.seq ?_
    refine Run.ops ?_
    refine SOps.st rfl rfl (Yv.loadBs (i := 1) lay24 rfl rfl rfl rfl).yl ?_
    refine SOps.one rfl (One.callRow rfl callable11 (.cons rfl (.nil)) (fun w' hw' => toDrought_spec ((Rd.arg hs) w' hw') (by omega)) (fun A2 c2 => ?_))
    refine SOps.one rfl (One.alloc rfl zero29 (fun b2 => ?_))
    refine SOps.one rfl (One.store (i := 0) (off := 0) (vs := [_, _, _]) (cs' := [_, _, _]) (H' := [_, _, _, _]) lay29 rfl rfl rfl rfl rfl rfl rfl rfl rfl rfl ?_)
    refine SOps.nil ?_
    refine Run.seq ?_
    refine Run.quiet (by intro h; cases h) ?_
    refine QOps.st rfl rfl (Yv.loadBs (i := 0) lay29 rfl rfl rfl rfl).yl ?_
    refine QOps.st rfl rfl (Yl.call callable12 (.cons rfl (.nil)) (fun w' hw' => IsDrought_spec ((Rd.row (i := 1) rfl) w' hw'))) ?_
    refine QOps.st rfl rfl (Yv.assign rfl).yl ?_
    refine QOps.nil ?_
    refine Run.seq ?_
    refine Run.seq ?_
    refine Run.quiet (by intro h; cases h) ?_
    refine QOps.st rfl rfl (Yv.move rfl).yl ?_
    refine QOps.st rfl rfl (Yv.move rfl).yl ?_
    refine QOps.st rfl rfl (Yv.neB bool4 rfl rfl).yl ?_
    refine QOps.nil ?_
    refine Run.cond rfl (fun hc2 => ?_) (fun hc2 => ?_)
    · exfalso
      simp at hc2
    · try replace hc2 := of_decide_eq_false hc2
      refine Run.skip ?_
      refine Run.seq ?_
      refine Run.seq ?_
      refine Run.draws (fun H => H) (m := 5) (listed := #[false, false, false, false, false]) (by kernel_rfl) rfl rfl ?_
      refine DOps.take (listed' := #[true, false, false, false, false]) 0 rfl (by kernel_rfl) rfl (List.Sublist.refl _) rfl rfl (Yv.loadBs (i := 0) lay29 rfl rfl rfl rfl) ?_
      refine DOps.take (listed' := #[true, true, false, false, false]) 1 rfl (by kernel_rfl) rfl (List.Sublist.refl _) rfl rfl (Yv.loadBs (i := 3) lay24 rfl rfl rfl rfl) ?_
      refine DOps.only (listed' := #[true, true, true, false, false]) 2 rfl (by kernel_rfl) rfl rfl ?_
      refine One.callRow rfl callable11 (.cons rfl (.nil)) (fun w' hw' => toDrought_spec ((Rd.arg hs) w' hw') (by omega)) (fun A3 c3 => ?_)
      refine ⟨(List.Sublist.cons _ (List.Sublist.refl _)), ?_⟩
      refine DOps.only (listed' := #[true, true, true, true, false]) 3 rfl (by kernel_rfl) rfl rfl ?_
      refine One.st rfl (Yl.call callable13 (.cons rfl (.cons rfl (.nil))) (fun w' hw' => eqDrought_spec ((Rd.row (i := 2) rfl) w' hw') ((Rd.row (i := 0) rfl) w' hw'))) ?_
      refine ⟨(List.Sublist.cons _ (List.Sublist.refl _)), ?_⟩
      refine DOps.take (listed' := #[true, true, true, true, true]) 4 rfl (by kernel_rfl) rfl (List.Sublist.cons _ (List.Sublist.refl _)) rfl rfl (Yv.not rfl) ?_
      refine DOps.done (by kernel_rfl) ?_
      refine Run.cond rfl (fun hc3 => ?_) (fun hc3 => ?_)
      · exfalso
        simp at hc3
      · try replace hc3 := of_decide_eq_false hc3
        refine Run.skip ?_
        refine Run.seq ?_
        refine Run.quiet (by intro h; cases h) ?_
        refine QOps.st rfl rfl (Yv.assign rfl).yl ?_
        refine QOps.nil ?_
        refine Run.ret ?_
        refine retQ.of (.inr rfl) rfl (.tmp rfl .nil) (fun w' hw' => ?_)
        refine ⟨?_, hw'.bel.below⟩
        exact rfl

theorem FnExactIsHalved_spec {w : World} {A : Option Addr} {c : Nat} {rs : List Rule} {bd nw : Int}  (hs : Sl w 3 A rs.length c (rs.flatMap Rule.enc)) (hb : 24 * rs.length ≤ 281474976710656) :
    Calls Try.prog 4 #[.agg #[.slice A rs.length c, .int .i64 bd, .int .i64 nw]] w (RetB w (.bool true)) := by
  refine calls_of_run (vs := [_]) (L := [(0, _)]) (n := 40) (F := []) (H := []) Try.func4 rfl rfl rfl rfl (HOk.start _) ?_
  refine Run.seq ?_
  refine Run.ops ?_
  refine SOps.one rfl (One.box (cs := [_, _, _]) rfl rfl rfl (fun b1 => ?_))
  refine SOps.st rfl rfl (Yv.assign rfl).yl ?_
  refine SOps.nil ?_
  refine Run.seq ?_
  refine Run.quiet (by intro h; cases h) ?_
  refine QOps.st rfl rfl (Yv.assign rfl).yl ?_
  refine QOps.nil ?_
  refine Run.seq ?_
  refine Run.quiet (by intro h; cases h) ?_
  refine QOps.st rfl rfl (Yv.loadBs (i := 0) lay24 rfl rfl rfl rfl).yl ?_
  refine QOps.st rfl rfl (Yv.move rfl).yl ?_
  refine QOps.st rfl rfl (Yl.call callable9 (.cons rfl (.cons rfl (.nil))) (fun w' hw' => szDrought_spec (by omega) (by omega) (by omega))) ?_
  refine QOps.st rfl rfl (Yv.assign rfl).yl ?_
  refine QOps.nil ?_
  refine Run.seq ?_
  refine Run.seq ?_
  refine Run.quiet (by intro h; cases h) ?_
  refine QOps.st rfl rfl (Yv.move rfl).yl ?_
  refine QOps.st rfl rfl (Yv.lss rfl rfl).yl ?_
  refine QOps.nil ?_
  refine Run.cond rfl (fun hc1 => ?_) (fun hc1 => ?_)
  · try replace hc1 := of_decide_eq_true hc1
    refine Run.seq ?_
    refine Run.quiet (by intro h; cases h) ?_
    refine QOps.st rfl rfl (Yv.assign rfl).yl ?_
    refine QOps.nil ?_
    refine Run.ret ?_
    refine retQ.of (.inr rfl) rfl (.tmp rfl .nil) (fun w' hw' => ?_)
    refine ⟨?_, hw'.bel.below⟩
    exact rfl
  · try replace hc1 := of_decide_eq_false hc1
    refine Run.skip ?_
    refine Run.seq ?_
    refine Run.ops ?_
    refine SOps.st rfl rfl (Yv.loadBs (i := 0) lay24 rfl rfl rfl rfl).yl ?_
    refine SOps.one rfl (One.callRow rfl callable11 (.cons rfl (.nil)) (fun w' hw' => toDrought_spec ((Rd.arg hs) w' hw') (by omega)) (fun A1 c1 => ?_))
    refine SOps.st rfl rfl (Yl.call callable14 (.cons rfl (.nil)) (fun w' hw' => sIsHalved_spec ((Rd.row (i := 0) rfl) w' hw'))) ?_
    refine SOps.st rfl rfl (Yv.move rfl).yl ?_
    refine SOps.st rfl rfl (Yv.extract rfl rfl).yl ?_
    refine SOps.st rfl rfl (Yv.extract rfl rfl).yl ?_
    refine SOps.st rfl rfl (Yv.assign rfl).yl ?_
    refine SOps.st rfl rfl (Yv.assign rfl).yl ?_
    refine SOps.nil ?_
    refine Run.seq ?_
    refine Run.ops ?_
    refine SOps.st rfl rfl (Yv.loadBs (i := 1) lay24 rfl rfl rfl rfl).yl ?_
    refine SOps.one rfl (One.callRow rfl callable11 (.cons rfl (.nil)) (fun w' hw' => toDrought_spec ((Rd.arg hs) w' hw') (by omega)) (fun A2 c2 => ?_))
    refine SOps.one rfl (One.alloc rfl zero29 (fun b2 => ?_))
    refine SOps.one rfl (One.store (i := 0) (off := 0) (vs := [_, _, _]) (cs' := [_, _, _]) (H' := [_, _, _, _]) lay29 rfl rfl rfl rfl rfl rfl rfl rfl rfl rfl ?_)
    refine SOps.nil ?_
    refine Run.seq ?_
    refine Run.quiet (by intro h; cases h) ?_
    refine QOps.st rfl rfl (Yv.loadBs (i := 0) lay29 rfl rfl rfl rfl).yl ?_
    refine QOps.st rfl rfl (Yl.call callable15 (.cons rfl (.nil)) (fun w' hw' => IsHalved_spec ((Rd.row (i := 1) rfl) w' hw'))) ?_
    refine QOps.st rfl rfl (Yv.move rfl).yl ?_
    refine QOps.st rfl rfl (Yv.extract rfl rfl).yl ?_
    refine QOps.st rfl rfl (Yv.extract rfl rfl).yl ?_
    refine QOps.st rfl rfl (Yv.assign rfl).yl ?_
    refine QOps.st rfl rfl (Yv.assign rfl).yl ?_
    refine QOps.nil ?_
    refine Run.seq ?_
    refine Run.seq ?_
    refine Run.quiet (by intro h; cases h) ?_
    refine QOps.st rfl rfl (Yv.move rfl).yl ?_
    refine QOps.st rfl rfl (Yv.move rfl).yl ?_
    refine QOps.st rfl rfl (Yv.neB bool4 rfl rfl).yl ?_
    refine QOps.st rfl rfl (Yv.move rfl).yl ?_
    refine' QOps.or [_, _, _] _ (.tmp 33) rfl rfl rfl rfl rfl rfl (fun hg1 => ?_) ?_
    rotate_left
    · try replace hg1 := of_decide_eq_false hg1
      refine QOps.st rfl rfl (Yv.move rfl).yl ?_
      refine QOps.st rfl rfl (Yv.move rfl).yl ?_
      refine QOps.st rfl rfl (Yv.neB bool4 rfl rfl).yl ?_
      exact QOps.nil rfl
    refine QOps.nil ?_
    refine Run.cond rfl (fun hc2 => ?_) (fun hc2 => ?_)
    · exfalso
      simp at hc2
    · try replace hc2 := of_decide_eq_false hc2
      refine Run.skip ?_
      refine Run.seq ?_
      refine Run.seq ?_
      refine Run.draws (fun H => H) (m := 5) (listed := #[false, false, false, false, false]) (by kernel_rfl) rfl rfl ?_
      refine DOps.take (listed' := #[true, false, false, false, false]) 0 rfl (by kernel_rfl) rfl (List.Sublist.refl _) rfl rfl (Yv.loadBs (i := 0) lay29 rfl rfl rfl rfl) ?_
      refine DOps.take (listed' := #[true, true, false, false, false]) 1 rfl (by kernel_rfl) rfl (List.Sublist.refl _) rfl rfl (Yv.loadBs (i := 3) lay24 rfl rfl rfl rfl) ?_
      refine DOps.only (listed' := #[true, true, true, false, false]) 2 rfl (by kernel_rfl) rfl rfl ?_
      refine One.callRow rfl callable11 (.cons rfl (.nil)) (fun w' hw' => toDrought_spec ((Rd.arg hs) w' hw') (by omega)) (fun A3 c3 => ?_)
      refine ⟨(List.Sublist.cons _ (List.Sublist.refl _)), ?_⟩
      refine DOps.only (listed' := #[true, true, true, true, false]) 3 rfl (by kernel_rfl) rfl rfl ?_
      refine One.st rfl (Yl.call callable13 (.cons rfl (.cons rfl (.nil))) (fun w' hw' => eqDrought_spec ((Rd.row (i := 2) rfl) w' hw') ((Rd.row (i := 0) rfl) w' hw'))) ?_
      refine ⟨(List.Sublist.cons _ (List.Sublist.refl _)), ?_⟩
      refine DOps.take (listed' := #[true, true, true, true, true]) 4 rfl (by kernel_rfl) rfl (List.Sublist.cons _ (List.Sublist.refl _)) rfl rfl (Yv.not rfl) ?_
      refine DOps.done (by kernel_rfl) ?_
      refine Run.cond rfl (fun hc3 => ?_) (fun hc3 => ?_)
      · exfalso
        simp at hc3
      · try replace hc3 := of_decide_eq_false hc3
        refine Run.skip ?_
        refine Run.seq ?_
        refine Run.quiet (by intro h; cases h) ?_
        refine QOps.st rfl rfl (Yv.assign rfl).yl ?_
        refine QOps.nil ?_
        refine Run.ret ?_
        refine retQ.of (.inr rfl) rfl (.tmp rfl .nil) (fun w' hw' => ?_)
        refine ⟨?_, hw'.bel.below⟩
        exact rfl

theorem FnExactAllowedDraught_spec {w : World} {A : Option Addr} {c : Nat} {rs : List Rule} {bd nw : Int}  (hs : Sl w 3 A rs.length c (rs.flatMap Rule.enc)) (hb : 24 * rs.length ≤ 281474976710656) :
    Calls Try.prog 5 #[.agg #[.slice A rs.length c, .int .i64 bd, .int .i64 nw]] w (RetB w (.bool true)) := by
  refine calls_of_run (vs := [_]) (L := [(0, _)]) (n := 40) (F := []) (H := []) Try.func5 rfl rfl rfl rfl (HOk.start _) ?_
  refine Run.seq ?_
  refine Run.ops ?_
  refine SOps.one rfl (One.box (cs := [_, _, _]) rfl rfl rfl (fun b1 => ?_))
  refine SOps.st rfl rfl (Yv.assign rfl).yl ?_
  refine SOps.nil ?_
  refine Run.seq ?_
  refine Run.quiet (by intro h; cases h) ?_
  refine QOps.st rfl rfl (Yv.assign rfl).yl ?_
  refine QOps.nil ?_
  refine Run.seq ?_
  refine Run.quiet (by intro h; cases h) ?_
  refine QOps.st rfl rfl (Yv.loadBs (i := 0) lay24 rfl rfl rfl rfl).yl ?_
  refine QOps.st rfl rfl (Yv.move rfl).yl ?_
  refine QOps.st rfl rfl (Yl.call callable9 (.cons rfl (.cons rfl (.nil))) (fun w' hw' => szDrought_spec (by omega) (by omega) (by omega))) ?_
  refine QOps.st rfl rfl (Yv.assign rfl).yl ?_
  refine QOps.nil ?_
  refine Run.seq ?_
  refine Run.seq ?_
  refine Run.quiet (by intro h; cases h) ?_
  refine QOps.st rfl rfl (Yv.move rfl).yl ?_
  refine QOps.st rfl rfl (Yv.lss rfl rfl).yl ?_
  refine QOps.nil ?_
  refine Run.cond rfl (fun hc1 => ?_) (fun hc1 => ?_)
  · try replace hc1 := of_decide_eq_true hc1
    refine Run.seq ?_
    refine Run.quiet (by intro h; cases h) ?_
    refine QOps.st rfl rfl (Yv.assign rfl).yl ?_
    refine QOps.nil ?_
    refine Run.ret ?_
    refine retQ.of (.inr rfl) rfl (.tmp rfl .nil) (fun w' hw' => ?_)
    refine ⟨?_, hw'.bel.below⟩
    exact rfl
  · try replace hc1 := of_decide_eq_false hc1
    refine Run.skip ?_
    refine Run.seq ?_
    refine Run.ops ?_
    refine SOps.st rfl rfl (Yv.loadBs (i := 0) lay24 rfl rfl rfl rfl).yl ?_
    refine SOps.one rfl (One.callRow rfl callable11 (.cons rfl (.nil)) (fun w' hw' => toDrought_spec ((Rd.arg hs) w' hw') (by omega)) (fun A1 c1 => ?_))
    refine SOps.st rfl rfl (Yl.call callable16 (.cons rfl (.nil)) (fun w' hw' => sAllowedDraught_spec ((Rd.row (i := 0) rfl) w' hw'))) ?_
    refine SOps.st rfl rfl (Yv.move rfl).yl ?_
    refine SOps.st rfl rfl (Yv.extract rfl rfl).yl ?_
    refine SOps.st rfl rfl (Yv.extract rfl rfl).yl ?_
    refine SOps.st rfl rfl (Yv.assign rfl).yl ?_
    refine SOps.st rfl rfl (Yv.assign rfl).yl ?_
    refine SOps.nil ?_
    refine Run.seq ?_
    refine Run.ops ?_
    refine SOps.st rfl rfl (Yv.loadBs (i := 1) lay24 rfl rfl rfl rfl).yl ?_
    refine SOps.one rfl (One.callRow rfl callable11 (.cons rfl (.nil)) (fun w' hw' => toDrought_spec ((Rd.arg hs) w' hw') (by omega)) (fun A2 c2 => ?_))
    refine SOps.one rfl (One.alloc rfl zero29 (fun b2 => ?_))
    refine SOps.one rfl (One.store (i := 0) (off := 0) (vs := [_, _, _]) (cs' := [_, _, _]) (H' := [_, _, _, _]) lay29 rfl rfl rfl rfl rfl rfl rfl rfl rfl rfl ?_)
    refine SOps.nil ?_
    refine Run.seq ?_
    refine Run.quiet (by intro h; cases h) ?_
    refine QOps.st rfl rfl (Yv.loadBs (i := 0) lay29 rfl rfl rfl rfl).yl ?_
    refine QOps.st rfl rfl (Yl.call callable17 (.cons rfl (.nil)) (fun w' hw' => AllowedDraught_spec ((Rd.row (i := 1) rfl) w' hw'))) ?_
    refine QOps.st rfl rfl (Yv.move rfl).yl ?_
    refine QOps.st rfl rfl (Yv.extract rfl rfl).yl ?_
    refine QOps.st rfl rfl (Yv.extract rfl rfl).yl ?_
    refine QOps.st rfl rfl (Yv.assign rfl).yl ?_
    refine QOps.st rfl rfl (Yv.assign rfl).yl ?_
    refine QOps.nil ?_
    refine Run.seq ?_
    refine Run.seq ?_
    refine Run.quiet (by intro h; cases h) ?_
    refine QOps.st rfl rfl (Yv.move rfl).yl ?_
    refine QOps.st rfl rfl (Yv.move rfl).yl ?_
    refine QOps.st rfl rfl (Yv.neI rfl rfl).yl ?_
    refine QOps.st rfl rfl (Yv.move rfl).yl ?_
    refine' QOps.or [_, _, _] _ (.tmp 33) rfl rfl rfl rfl rfl rfl (fun hg1 => ?_) ?_
    rotate_left
    · try replace hg1 := of_decide_eq_false hg1
      refine QOps.st rfl rfl (Yv.move rfl).yl ?_
      refine QOps.st rfl rfl (Yv.move rfl).yl ?_
      refine QOps.st rfl rfl (Yv.neB bool4 rfl rfl).yl ?_
      exact QOps.nil rfl
    refine QOps.nil ?_
    refine Run.cond rfl (fun hc2 => ?_) (fun hc2 => ?_)
    · exfalso
      simp at hc2
    · try replace hc2 := of_decide_eq_false hc2
      refine Run.skip ?_
      refine Run.seq ?_
      refine Run.seq ?_
      refine Run.draws (fun H => H) (m := 5) (listed := #[false, false, false, false, false]) (by kernel_rfl) rfl rfl ?_
      refine DOps.take (listed' := #[true, false, false, false, false]) 0 rfl (by kernel_rfl) rfl (List.Sublist.refl _) rfl rfl (Yv.loadBs (i := 0) lay29 rfl rfl rfl rfl) ?_
      refine DOps.take (listed' := #[true, true, false, false, false]) 1 rfl (by kernel_rfl) rfl (List.Sublist.refl _) rfl rfl (Yv.loadBs (i := 3) lay24 rfl rfl rfl rfl) ?_
      refine DOps.only (listed' := #[true, true, true, false, false]) 2 rfl (by kernel_rfl) rfl rfl ?_
      refine One.callRow rfl callable11 (.cons rfl (.nil)) (fun w' hw' => toDrought_spec ((Rd.arg hs) w' hw') (by omega)) (fun A3 c3 => ?_)
      refine ⟨(List.Sublist.cons _ (List.Sublist.refl _)), ?_⟩
      refine DOps.only (listed' := #[true, true, true, true, false]) 3 rfl (by kernel_rfl) rfl rfl ?_
      refine One.st rfl (Yl.call callable13 (.cons rfl (.cons rfl (.nil))) (fun w' hw' => eqDrought_spec ((Rd.row (i := 2) rfl) w' hw') ((Rd.row (i := 0) rfl) w' hw'))) ?_
      refine ⟨(List.Sublist.cons _ (List.Sublist.refl _)), ?_⟩
      refine DOps.take (listed' := #[true, true, true, true, true]) 4 rfl (by kernel_rfl) rfl (List.Sublist.cons _ (List.Sublist.refl _)) rfl rfl (Yv.not rfl) ?_
      refine DOps.done (by kernel_rfl) ?_
      refine Run.cond rfl (fun hc3 => ?_) (fun hc3 => ?_)
      · exfalso
        simp at hc3
      · try replace hc3 := of_decide_eq_false hc3
        refine Run.skip ?_
        refine Run.seq ?_
        refine Run.quiet (by intro h; cases h) ?_
        refine QOps.st rfl rfl (Yv.assign rfl).yl ?_
        refine QOps.nil ?_
        refine Run.ret ?_
        refine retQ.of (.inr rfl) rfl (.tmp rfl .nil) (fun w' hw' => ?_)
        refine ⟨?_, hw'.bel.below⟩
        exact rfl

theorem FnExactStageAt_spec {w : World} {A : Option Addr} {c : Nat} {rs : List Rule} {bd nw : Int} {lv : Int} (hs : Sl w 3 A rs.length c (rs.flatMap Rule.enc)) (hb : 24 * rs.length ≤ 281474976710656) :
    Calls Try.prog 6 #[.agg #[.slice A rs.length c, .int .i64 bd, .int .i64 nw], .int .i64 lv] w (RetB w (.bool true)) := by
  refine calls_of_run (vs := [_, _]) (L := [(0, _), (1, _)]) (n := 44) (F := []) (H := []) Try.func6 rfl rfl rfl rfl (HOk.start _) ?_
  refine Run.seq ?_
  refine Run.ops ?_
  refine SOps.one rfl (One.box (cs := [_, _, _]) rfl rfl rfl (fun b1 => ?_))
  refine SOps.st rfl rfl (Yv.assign rfl).yl ?_
  refine SOps.nil ?_
  refine Run.seq ?_
  refine Run.quiet (by intro h; cases h) ?_
  refine QOps.st rfl rfl (Yv.assign rfl).yl ?_
  refine QOps.nil ?_
  refine Run.seq ?_
  refine Run.quiet (by intro h; cases h) ?_
  refine QOps.st rfl rfl (Yv.loadBs (i := 0) lay24 rfl rfl rfl rfl).yl ?_
  refine QOps.st rfl rfl (Yv.move rfl).yl ?_
  refine QOps.st rfl rfl (Yl.call callable9 (.cons rfl (.cons rfl (.nil))) (fun w' hw' => szDrought_spec (by omega) (by omega) (by omega))) ?_
  refine QOps.st rfl rfl (Yv.assign rfl).yl ?_
  refine QOps.nil ?_
  refine Run.seq ?_
  refine Run.seq ?_
  refine Run.quiet (by intro h; cases h) ?_
  refine QOps.st rfl rfl (Yv.move rfl).yl ?_
  refine QOps.st rfl rfl (Yv.lss rfl rfl).yl ?_
  refine QOps.nil ?_
  refine Run.cond rfl (fun hc1 => ?_) (fun hc1 => ?_)
  · try replace hc1 := of_decide_eq_true hc1
    refine Run.seq ?_
    refine Run.quiet (by intro h; cases h) ?_
    refine QOps.st rfl rfl (Yv.assign rfl).yl ?_
    refine QOps.nil ?_
    refine Run.ret ?_
    refine retQ.of (.inr rfl) rfl (.tmp rfl .nil) (fun w' hw' => ?_)
    refine ⟨?_, hw'.bel.below⟩
    exact rfl
  · try replace hc1 := of_decide_eq_false hc1
    refine Run.skip ?_
    refine Run.seq ?_
    refine Run.ops ?_
    refine SOps.st rfl rfl (Yv.loadBs (i := 0) lay24 rfl rfl rfl rfl).yl ?_
    refine SOps.one rfl (One.callRow rfl callable11 (.cons rfl (.nil)) (fun w' hw' => toDrought_spec ((Rd.arg hs) w' hw') (by omega)) (fun A1 c1 => ?_))
    refine SOps.st rfl rfl (Yv.move rfl).yl ?_
    refine SOps.st rfl rfl (Yl.call callable18 (.cons rfl (.cons rfl (.nil))) (fun w' hw' => sStageAt_spec ((Rd.row (i := 0) rfl) w' hw'))) ?_
    refine SOps.st rfl rfl (Yv.move rfl).yl ?_
    refine SOps.st rfl rfl (Yv.extract rfl rfl).yl ?_
    refine SOps.st rfl rfl (Yv.extract rfl rfl).yl ?_
    refine SOps.st rfl rfl (Yv.assign rfl).yl ?_
    refine SOps.st rfl rfl (Yv.assign rfl).yl ?_
    refine SOps.nil ?_
    refine Run.seq ?_
    refine Run.ops ?_
    refine SOps.st rfl rfl (Yv.loadBs (i := 1) lay24 rfl rfl rfl rfl).yl ?_
    refine SOps.one rfl (One.callRow rfl callable11 (.cons rfl (.nil)) (fun w' hw' => toDrought_spec ((Rd.arg hs) w' hw') (by omega)) (fun A2 c2 => ?_))
    refine SOps.one rfl (One.alloc rfl zero29 (fun b2 => ?_))
    refine SOps.one rfl (One.store (i := 0) (off := 0) (vs := [_, _, _]) (cs' := [_, _, _]) (H' := [_, _, _, _]) lay29 rfl rfl rfl rfl rfl rfl rfl rfl rfl rfl ?_)
    refine SOps.nil ?_
    refine Run.seq ?_
    refine Run.quiet (by intro h; cases h) ?_
    refine QOps.st rfl rfl (Yv.loadBs (i := 0) lay29 rfl rfl rfl rfl).yl ?_
    refine QOps.st rfl rfl (Yv.move rfl).yl ?_
    refine QOps.st rfl rfl (Yl.call callable19 (.cons rfl (.cons rfl (.nil))) (fun w' hw' => StageAt_spec ((Rd.row (i := 1) rfl) w' hw'))) ?_
    refine QOps.st rfl rfl (Yv.move rfl).yl ?_
    refine QOps.st rfl rfl (Yv.extract rfl rfl).yl ?_
    refine QOps.st rfl rfl (Yv.extract rfl rfl).yl ?_
    refine QOps.st rfl rfl (Yv.assign rfl).yl ?_
    refine QOps.st rfl rfl (Yv.assign rfl).yl ?_
    refine QOps.nil ?_
    refine Run.seq ?_
    refine Run.seq ?_
    refine Run.quiet (by intro h; cases h) ?_
    refine QOps.st rfl rfl (Yv.move rfl).yl ?_
    refine QOps.st rfl rfl (Yv.move rfl).yl ?_
    refine QOps.st rfl rfl (Yv.neI rfl rfl).yl ?_
    refine QOps.st rfl rfl (Yv.move rfl).yl ?_
    refine' QOps.or [_, _, _] _ (.tmp 37) rfl rfl rfl rfl rfl rfl (fun hg1 => ?_) ?_
    rotate_left
    · try replace hg1 := of_decide_eq_false hg1
      refine QOps.st rfl rfl (Yv.move rfl).yl ?_
      refine QOps.st rfl rfl (Yv.move rfl).yl ?_
      refine QOps.st rfl rfl (Yv.neB bool4 rfl rfl).yl ?_
      exact QOps.nil rfl
    refine QOps.nil ?_
    refine Run.cond rfl (fun hc2 => ?_) (fun hc2 => ?_)
    · exfalso
      simp at hc2
    · try replace hc2 := of_decide_eq_false hc2
      refine Run.skip ?_
      refine Run.seq ?_
      refine Run.seq ?_
      refine Run.draws (fun H => H) (m := 5) (listed := #[false, false, false, false, false]) (by kernel_rfl) rfl rfl ?_
      refine DOps.take (listed' := #[true, false, false, false, false]) 0 rfl (by kernel_rfl) rfl (List.Sublist.refl _) rfl rfl (Yv.loadBs (i := 0) lay29 rfl rfl rfl rfl) ?_
      refine DOps.take (listed' := #[true, true, false, false, false]) 1 rfl (by kernel_rfl) rfl (List.Sublist.refl _) rfl rfl (Yv.loadBs (i := 3) lay24 rfl rfl rfl rfl) ?_
      refine DOps.only (listed' := #[true, true, true, false, false]) 2 rfl (by kernel_rfl) rfl rfl ?_
      refine One.callRow rfl callable11 (.cons rfl (.nil)) (fun w' hw' => toDrought_spec ((Rd.arg hs) w' hw') (by omega)) (fun A3 c3 => ?_)
      refine ⟨(List.Sublist.cons _ (List.Sublist.refl _)), ?_⟩
      refine DOps.only (listed' := #[true, true, true, true, false]) 3 rfl (by kernel_rfl) rfl rfl ?_
      refine One.st rfl (Yl.call callable13 (.cons rfl (.cons rfl (.nil))) (fun w' hw' => eqDrought_spec ((Rd.row (i := 2) rfl) w' hw') ((Rd.row (i := 0) rfl) w' hw'))) ?_
      refine ⟨(List.Sublist.cons _ (List.Sublist.refl _)), ?_⟩
      refine DOps.take (listed' := #[true, true, true, true, true]) 4 rfl (by kernel_rfl) rfl (List.Sublist.cons _ (List.Sublist.refl _)) rfl rfl (Yv.not rfl) ?_
      refine DOps.done (by kernel_rfl) ?_
      refine Run.cond rfl (fun hc3 => ?_) (fun hc3 => ?_)
      · exfalso
        simp at hc3
      · try replace hc3 := of_decide_eq_false hc3
        refine Run.skip ?_
        refine Run.seq ?_
        refine Run.quiet (by intro h; cases h) ?_
        refine QOps.st rfl rfl (Yv.assign rfl).yl ?_
        refine QOps.nil ?_
        refine Run.ret ?_
        refine retQ.of (.inr rfl) rfl (.tmp rfl .nil) (fun w' hw' => ?_)
        refine ⟨?_, hw'.bel.below⟩
        exact rfl

end Go.Proofs.Ytkkmmbogeeopaaa
