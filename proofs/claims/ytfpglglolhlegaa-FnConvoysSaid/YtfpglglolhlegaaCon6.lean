/- Convoys that join. Conditions: none. -/
import Derived.Test.YtfpglglolhlegaaCon5
namespace Go.Proofs.Ytfpglglolhlegaa
open Go.RowKit
theorem copyInts_spec {w : World} {A : Option Addr} {c : Nat} {l : List Int} (hs : Sl w 1 A l.length c (l.flatMap intC)) (hl : l.length ≤ 4000000) :
    Calls Try.prog 70 #[.slice A l.length c] w (RetRow w 3 1 l.length (l.flatMap intC) (fun v => v)) := by
  refine calls_of_run (vs := [_]) (L := [(0, _)]) (n := 6) (F := []) (H := []) Try.func70 rfl rfl rfl rfl (HOk.start _) ?_
  refine Run.seq ?_
  refine Run.quiet (by intro h; cases h) ?_
  refine QOps.st rfl rfl (Yv.assign rfl).yl ?_
  refine QOps.nil ?_
  refine Run.seq ?_
  refine Run.ops ?_
  refine SOps.one rfl (One.buildSliceG (pv := []) (cs := []) (fun _ => []) rfl el22 .nil rfl rfl (by kernel_rfl) rfl rfl (fun b1 => ?_))
  refine SOps.st rfl rfl (Yv.move rfl).yl ?_
  refine SOps.one rfl (One.append (enc := intC) (l := ([] : List Int)) (l2 := l) (m' := l.length) (i := 0) (H' := fun A c => [_]) rfl el22 zero3 rfl (by decide) rfl rfl rfl (Rd.arg hs) (fun _ => rfl) (by simp) (by omega) (by omega) (fun _ _ => rfl) (fun A1 c1 => ?_))
  refine SOps.st rfl rfl (Yv.assign rfl).yl ?_
  refine SOps.nil ?_
  refine Run.ret ?_
  refine retQ.of (.inr rfl) rfl (.tmp rfl .nil) (fun w' hw' => ?_)
  exact ⟨_, _, rfl, hw'.bel.below, hw'.ent _ (List.mem_of_getElem? (i := 0) rfl), fun g hg => (hw'.own _ (List.mem_of_getElem? (i := 0) rfl) g hg).elim id (by simp)⟩

theorem l1Own_spec {w : World} {A : Option Addr} {c : Nat} {l : List Int} (hs : Sl w 1 A l.length c (l.flatMap intC)) (hl : l.length ≤ 4000000) :
    Calls Try.prog 74 #[.slice A l.length c] w (RetRow w 3 1 l.length (l.flatMap intC) (fun v => v)) := by
  refine calls_of_run (vs := [_]) (L := [(0, _)]) (n := 6) (F := []) (H := []) Try.func74 rfl rfl rfl rfl (HOk.start _) ?_
  refine Run.seq ?_
  refine Run.quiet (by intro h; cases h) ?_
  refine QOps.st rfl rfl (Yv.assign rfl).yl ?_
  refine QOps.nil ?_
  refine Run.seq ?_
  refine Run.ops ?_
  refine SOps.one rfl (One.buildSliceG (pv := []) (cs := []) (fun _ => []) rfl el22 .nil rfl rfl (by kernel_rfl) rfl rfl (fun b1 => ?_))
  refine SOps.st rfl rfl (Yv.move rfl).yl ?_
  refine SOps.one rfl (One.append (enc := intC) (l := ([] : List Int)) (l2 := l) (m' := l.length) (i := 0) (H' := fun A c => [_]) rfl el22 zero3 rfl (by decide) rfl rfl rfl (Rd.arg hs) (fun _ => rfl) (by simp) (by omega) (by omega) (fun _ _ => rfl) (fun A1 c1 => ?_))
  refine SOps.st rfl rfl (Yv.assign rfl).yl ?_
  refine SOps.nil ?_
  refine Run.ret ?_
  refine retQ.of (.inr rfl) rfl (.tmp rfl .nil) (fun w' hw' => ?_)
  exact ⟨_, _, rfl, hw'.bel.below, hw'.ent _ (List.mem_of_getElem? (i := 0) rfl), fun g hg => (hw'.own _ (List.mem_of_getElem? (i := 0) rfl) g hg).elim id (by simp)⟩

theorem l1Most_spec {w : World} {n m : Int} : Calls Try.prog 73 #[.int .i64 n, .int .i64 m] w (RetB w (.int .i64 (max n m))) := by
  refine calls_of_run (vs := [_, _]) (L := [(0, _), (1, _)]) (n := 10) (F := []) (H := []) Try.func73 rfl rfl rfl rfl (HOk.start _) ?_
  refine Run.seq ?_
  refine Run.quiet (by intro h; cases h) ?_
  refine QOps.st rfl rfl (Yv.assign rfl).yl ?_
  refine QOps.nil ?_
  refine Run.seq ?_
  refine Run.seq ?_
  refine Run.quiet (by intro h; cases h) ?_
  refine QOps.st rfl rfl (Yv.move rfl).yl ?_
  refine QOps.st rfl rfl (Yv.move rfl).yl ?_
  refine QOps.st rfl rfl (Yv.gtr rfl rfl).yl ?_
  refine QOps.nil ?_
  refine Run.cond rfl (fun hc1 => ?_) (fun hc1 => ?_)
  · try replace hc1 := of_decide_eq_true hc1
    refine Run.seq ?_
    refine Run.quiet (by intro h; cases h) ?_
    refine QOps.st rfl rfl (Yv.move rfl).yl ?_
    refine QOps.st rfl rfl (Yv.assign rfl).yl ?_
    refine QOps.nil ?_
    refine Run.ret ?_
    refine retQ.of (.inr rfl) rfl (.tmp rfl .nil) (fun w' hw' => ?_)
    refine ⟨?_, hw'.bel.below⟩
    refine retI_eq ?_
    omega
  · try replace hc1 := of_decide_eq_false hc1
    refine Run.skip ?_
    refine Run.seq ?_
    refine Run.quiet (by intro h; cases h) ?_
    refine QOps.st rfl rfl (Yv.move rfl).yl ?_
    refine QOps.st rfl rfl (Yv.assign rfl).yl ?_
    refine QOps.nil ?_
    refine Run.ret ?_
    refine retQ.of (.inr rfl) rfl (.tmp rfl .nil) (fun w' hw' => ?_)
    refine ⟨?_, hw'.bel.below⟩
    refine retI_eq ?_
    omega

def joinP (p : Int) (l : List Int) (p2 : Int) (l2 : List Int) : Int := if (validConvoy p l && validConvoy p2 l2 && validConvoy (max p p2) (l ++ l2)) = true then max p p2 else 0
def joinL (p : Int) (l : List Int) (p2 : Int) (l2 : List Int) : List Int := if (validConvoy p l && validConvoy p2 l2 && validConvoy (max p p2) (l ++ l2)) = true then l ++ l2 else []
theorem joinL_len {p p2 : Int} {l l2 : List Int} : (joinL p l p2 l2).length ≤ l.length + l2.length := by
  unfold joinL
  split
  · simp
  · simp
theorem JoinConvoys_spec {w : World} {A A2 : Option Addr} {c c2 : Nat} {p p2 : Int} {l l2 : List Int} (hs : Sl w 1 A l.length c (l.flatMap intC)) (hs2 : Sl w 1 A2 l2.length c2 (l2.flatMap intC)) (hl : l.length ≤ 1048576) (hl2 : l2.length ≤ 1048576) :
    Calls Try.prog 37 #[.agg #[.int .i64 p, .slice A l.length c], .agg #[.int .i64 p2, .slice A2 l2.length c2]] w (RetRow w 3 1 (joinL p l p2 l2).length ((joinL p l p2 l2).flatMap intC) (fun v => .tuple #[.agg #[.int .i64 (joinP p l p2 l2), v], .bool (validConvoy p l && validConvoy p2 l2 && validConvoy (max p p2) (l ++ l2))])) := by
  refine calls_of_run (vs := [_, _]) (L := [(0, _), (1, _)]) (n := 33) (F := []) (H := []) Try.func37 rfl rfl rfl rfl (HOk.start _) ?_
  refine Run.seq ?_
  refine Run.ops ?_
  refine SOps.one rfl (One.box (cs := [_, _]) rfl rfl rfl (fun b1 => ?_))
  refine SOps.one rfl (One.box (cs := [_, _]) rfl rfl rfl (fun b2 => ?_))
  refine SOps.one rfl (One.alloc rfl zero27 (fun b3 => ?_))
  refine SOps.st rfl rfl (Yv.assign rfl).yl ?_
  refine SOps.nil ?_
  refine Run.seq ?_
  refine Run.seq ?_
  refine Run.quiet (by intro h; cases h) ?_
  refine QOps.st rfl rfl (Yv.loadBs (i := 2) lay27 rfl rfl rfl rfl).yl ?_
  refine QOps.st rfl rfl (Yl.call callable18 (.cons rfl (.nil)) (fun w' hw' => IsValidConvoy_spec ((Rd.arg hs) w' hw'))) ?_
  refine QOps.st rfl rfl (Yv.not rfl).yl ?_
  refine QOps.st rfl rfl (Yv.move rfl).yl ?_
  refine' QOps.or [_, _, _] _ (.tmp 13) rfl rfl rfl rfl rfl rfl (fun hg1 => ?_) ?_
  rotate_left
  · try replace hg1 := of_decide_eq_false hg1
    refine QOps.st rfl rfl (Yv.loadBs (i := 1) lay27 rfl rfl rfl rfl).yl ?_
    refine QOps.st rfl rfl (Yl.call callable18 (.cons rfl (.nil)) (fun w' hw' => IsValidConvoy_spec ((Rd.arg hs2) w' hw'))) ?_
    refine QOps.st rfl rfl (Yv.not rfl).yl ?_
    exact QOps.nil rfl
  refine QOps.nil ?_
  refine Run.cond rfl (fun hc1 => ?_) (fun hc1 => ?_)
  · try replace hc1 := of_decide_eq_true hc1
    have hn : ¬ (validConvoy p l && validConvoy p2 l2 && validConvoy (max p p2) (l ++ l2)) = true := by revert hc1; cases validConvoy p l <;> cases validConvoy p2 l2 <;> simp
    refine Run.seq ?_
    refine Run.ops ?_
    refine SOps.st rfl rfl (Yv.buildG (pv := []) (cs := [_, _]) (fun _ => [.int .i64 0, .slice none 0 0]) .nil rfl rfl (by kernel_rfl)).yl ?_
    refine SOps.one rfl (One.store (i := 0) (off := 0) (vs := [_, _]) (cs' := [_, _]) (H' := [_, _, _]) lay27 rfl rfl rfl rfl rfl rfl rfl rfl rfl rfl ?_)
    refine SOps.st rfl rfl (Yv.assign rfl).yl ?_
    refine SOps.nil ?_
    refine Run.ret ?_
    refine retQ.of (.inr rfl) rfl (.cells (i := 0) rfl lay27 rfl rfl (.tmp rfl .nil)) (fun w' hw' => ?_)
    unfold joinP joinL; rw [if_neg hn, if_neg hn, Bool.eq_false_iff.2 hn]; exact ⟨_, _, rfl, hw'.bel.below, ⟨by first | rfl | simp, .inl ⟨rfl, rfl⟩⟩, by simp⟩
  · try replace hc1 := of_decide_eq_false hc1
    refine Run.skip ?_
    refine Run.seq ?_
    refine Run.draws (fun H => H) (m := 14) (listed := #[false, false, false, false, false, false, false, false, false, false, false, false, false, false]) (by kernel_rfl) rfl rfl ?_
    refine DOps.take (listed' := #[true, false, false, false, false, false, false, false, false, false, false, false, false, false]) 0 rfl (by kernel_rfl) rfl (List.Sublist.refl _) rfl rfl (Yv.fieldAddr fld27_0 rfl) ?_
    refine DOps.take (listed' := #[true, true, false, false, false, false, false, false, false, false, false, false, false, false]) 1 rfl (by kernel_rfl) rfl (List.Sublist.refl _) rfl rfl (Yv.loadB (i := 2) lay3 rfl rfl rfl rfl) ?_
    refine DOps.take (listed' := #[true, true, true, false, false, false, false, false, false, false, false, false, false, false]) 2 rfl (by kernel_rfl) rfl (List.Sublist.refl _) rfl rfl (Yv.fieldAddr fld27_0 rfl) ?_
    refine DOps.take (listed' := #[true, true, true, true, false, false, false, false, false, false, false, false, false, false]) 3 rfl (by kernel_rfl) rfl (List.Sublist.refl _) rfl rfl (Yv.loadB (i := 1) lay3 rfl rfl rfl rfl) ?_
    refine DOps.take (listed' := #[true, true, true, true, true, false, false, false, false, false, false, false, false, false]) 4 rfl (by kernel_rfl) rfl (List.Sublist.refl _) rfl rfl (Yv.max2 rfl rfl) ?_
    refine DOps.take (listed' := #[true, true, true, true, true, true, false, false, false, false, false, false, false, false]) 5 rfl (by kernel_rfl) rfl (List.Sublist.refl _) rfl rfl (Yv.fieldAddr fld27_1 rfl) ?_
    refine DOps.take (listed' := #[true, true, true, true, true, true, true, false, false, false, false, false, false, false]) 6 rfl (by kernel_rfl) rfl (List.Sublist.refl _) rfl rfl (Yv.loadB (i := 2) lay22 rfl rfl rfl rfl) ?_
    refine DOps.take (listed' := #[true, true, true, true, true, true, true, false, true, false, false, false, false, false]) 8 rfl (by kernel_rfl) rfl (List.Sublist.refl _) rfl rfl (Yv.fieldAddr fld27_1 rfl) ?_
    refine DOps.take (listed' := #[true, true, true, true, true, true, true, false, true, true, false, false, false, false]) 9 rfl (by kernel_rfl) rfl (List.Sublist.refl _) rfl rfl (Yv.loadB (i := 1) lay22 rfl rfl rfl rfl) ?_
    refine DOps.fork2 (l1 := #[true, true, true, true, true, true, true, true, true, true, false, false, false, false]) (l2 := #[true, true, true, true, true, true, true, false, true, true, false, false, true, false]) 7 12 rfl rfl (by kernel_rfl) rfl rfl rfl rfl ?_ ?_
    ·
      refine One.callRow rfl callable70 (.cons rfl (.nil)) (fun w' hw' => copyInts_spec ((Rd.arg hs) w' hw') (by omega)) (fun A1 c1 => ?_)
      refine ⟨(List.Sublist.cons _ (List.Sublist.refl _)), ?_⟩
      refine DOps.fork2 (l1 := #[true, true, true, true, true, true, true, true, true, true, true, false, false, false]) (l2 := #[true, true, true, true, true, true, true, true, true, true, false, false, true, false]) 10 12 rfl rfl (by kernel_rfl) rfl rfl rfl rfl ?_ ?_
      ·
        refine One.append (enc := intC) (l := l) (l2 := l2) (m' := (l ++ l2).length) (i := 0) (H' := fun A c => [_, _, _, _]) rfl el22 zero3 rfl (by decide) rfl rfl rfl (Rd.arg hs2) (fun _ => rfl) (by simp) (by simp; omega) (by simp; omega) (fun _ _ => rfl) (fun A2 c2 => ?_)
        refine ⟨(List.Sublist.cons _ (List.Sublist.refl _)), ?_⟩
        refine DOps.take (listed' := #[true, true, true, true, true, true, true, true, true, true, true, true, false, false]) 11 rfl (by kernel_rfl) rfl (List.Sublist.cons _ (List.Sublist.refl _)) rfl rfl (Yv.buildG (pv := [(0, _), (1, _)]) (cs := [_, _]) (fun l => match l with | [a0_0, a1_0] => [a0_0, a1_0] | _ => []) (.cons rfl (.cons rfl (.nil))) rfl rfl (by kernel_rfl)) ?_
        refine DOps.only (listed' := #[true, true, true, true, true, true, true, true, true, true, true, true, true, false]) 12 rfl (by kernel_rfl) rfl rfl ?_
        refine One.alloc rfl zero27 (fun b4 => ?_)
        refine ⟨(List.Sublist.cons _ (List.Sublist.cons _ (List.Sublist.refl _))), ?_⟩
        refine DOps.only (listed' := #[true, true, true, true, true, true, true, true, true, true, true, true, true, true]) 13 rfl (by kernel_rfl) rfl rfl ?_
        refine One.store (i := 0) (off := 0) (vs := [_, _]) (cs' := [_, _]) (H' := [_, _, _, _, _]) lay27 rfl rfl rfl rfl rfl rfl rfl rfl rfl rfl ?_
        refine ⟨(List.Sublist.cons _ (List.Sublist.cons _ (List.Sublist.refl _))), ?_⟩
        refine DOps.done (by kernel_rfl) ?_
        refine Run.seq ?_
        refine Run.seq ?_
        refine Run.quiet (by intro h; cases h) ?_
        refine QOps.st rfl rfl (Yv.loadBs (i := 0) lay27 rfl rfl rfl rfl).yl ?_
        refine QOps.st rfl rfl (Yl.call callable18 (.cons rfl (.nil)) (fun w' hw' => IsValidConvoy_spec ((Rd.row (i := 1) rfl) w' hw'))) ?_
        refine QOps.st rfl rfl (Yv.not rfl).yl ?_
        refine QOps.nil ?_
        refine Run.cond rfl (fun hc2 => ?_) (fun hc2 => ?_)
        · try replace hc2 := of_decide_eq_true hc2
          have hn : ¬ (validConvoy p l && validConvoy p2 l2 && validConvoy (max p p2) (l ++ l2)) = true := by revert hc2; cases validConvoy p l <;> cases validConvoy p2 l2 <;> cases validConvoy (max p p2) (l ++ l2) <;> simp
          refine Run.seq ?_
          refine Run.ops ?_
          refine SOps.st rfl rfl (Yv.buildG (pv := []) (cs := [_, _]) (fun _ => [.int .i64 0, .slice none 0 0]) .nil rfl rfl (by kernel_rfl)).yl ?_
          refine SOps.one rfl (One.store (i := 2) (off := 0) (vs := [_, _]) (cs' := [_, _]) (H' := [_, _, _, _, _]) lay27 rfl rfl rfl rfl rfl rfl rfl rfl rfl rfl ?_)
          refine SOps.st rfl rfl (Yv.assign rfl).yl ?_
          refine SOps.nil ?_
          refine Run.ret ?_
          refine retQ.of (.inr rfl) rfl (.cells (i := 2) rfl lay27 rfl rfl (.tmp rfl .nil)) (fun w' hw' => ?_)
          unfold joinP joinL; rw [if_neg hn, if_neg hn, Bool.eq_false_iff.2 hn]; exact ⟨_, _, rfl, hw'.bel.below, ⟨by first | rfl | simp, .inl ⟨rfl, rfl⟩⟩, by simp⟩
        · try replace hc2 := of_decide_eq_false hc2
          have hy : (validConvoy p l && validConvoy p2 l2 && validConvoy (max p p2) (l ++ l2)) = true := by revert hc1 hc2; cases validConvoy p l <;> cases validConvoy p2 l2 <;> cases validConvoy (max p p2) (l ++ l2) <;> simp
          refine Run.skip ?_
          refine Run.seq ?_
          refine Run.ops ?_
          refine SOps.st rfl rfl (Yv.loadBs (i := 0) lay27 rfl rfl rfl rfl).yl ?_
          refine SOps.one rfl (One.store (i := 2) (off := 0) (vs := [_, _]) (cs' := [_, _]) (H' := [_, _, _, _, _]) lay27 rfl rfl rfl rfl rfl rfl rfl rfl rfl rfl ?_)
          refine SOps.st rfl rfl (Yv.assign rfl).yl ?_
          refine SOps.nil ?_
          refine Run.ret ?_
          refine retQ.of (.inr rfl) rfl (.cells (i := 2) rfl lay27 rfl rfl (.tmp rfl .nil)) (fun w' hw' => ?_)
          unfold joinP joinL; rw [if_pos hy, if_pos hy, hy]; exact ⟨_, _, rfl, hw'.bel.below, hw'.ent _ (List.mem_of_getElem? (i := 1) rfl), fun g hg => (hw'.own _ (List.mem_of_getElem? (i := 1) rfl) g hg).elim id (by simp)⟩
      ·
        refine One.alloc rfl zero27 (fun b4 => ?_)
        refine ⟨(List.Sublist.cons _ (List.Sublist.cons _ (List.Sublist.refl _))), ?_⟩
        refine DOps.only (listed' := #[true, true, true, true, true, true, true, true, true, true, true, false, true, false]) 10 rfl (by kernel_rfl) rfl rfl ?_
        refine One.append (enc := intC) (l := l) (l2 := l2) (m' := (l ++ l2).length) (i := 1) (H' := fun A c => [_, _, _, _, _]) rfl el22 zero3 rfl (by decide) rfl rfl rfl (Rd.arg hs2) (fun _ => rfl) (by simp) (by simp; omega) (by simp; omega) (fun _ _ => rfl) (fun A2 c2 => ?_)
        refine ⟨(List.Sublist.cons _ (List.Sublist.cons _ (List.Sublist.refl _))), ?_⟩
        refine DOps.take (listed' := #[true, true, true, true, true, true, true, true, true, true, true, true, true, false]) 11 rfl (by kernel_rfl) rfl (List.Sublist.cons _ (List.Sublist.cons _ (List.Sublist.refl _))) rfl rfl (Yv.buildG (pv := [(0, _), (1, _)]) (cs := [_, _]) (fun l => match l with | [a0_0, a1_0] => [a0_0, a1_0] | _ => []) (.cons rfl (.cons rfl (.nil))) rfl rfl (by kernel_rfl)) ?_
        refine DOps.only (listed' := #[true, true, true, true, true, true, true, true, true, true, true, true, true, true]) 13 rfl (by kernel_rfl) rfl rfl ?_
        refine One.store (i := 0) (off := 0) (vs := [_, _]) (cs' := [_, _]) (H' := [_, _, _, _, _]) lay27 rfl rfl rfl rfl rfl rfl rfl rfl rfl rfl ?_
        refine ⟨(List.Sublist.cons _ (List.Sublist.cons _ (List.Sublist.refl _))), ?_⟩
        refine DOps.done (by kernel_rfl) ?_
        refine Run.seq ?_
        refine Run.seq ?_
        refine Run.quiet (by intro h; cases h) ?_
        refine QOps.st rfl rfl (Yv.loadBs (i := 0) lay27 rfl rfl rfl rfl).yl ?_
        refine QOps.st rfl rfl (Yl.call callable18 (.cons rfl (.nil)) (fun w' hw' => IsValidConvoy_spec ((Rd.row (i := 1) rfl) w' hw'))) ?_
        refine QOps.st rfl rfl (Yv.not rfl).yl ?_
        refine QOps.nil ?_
        refine Run.cond rfl (fun hc2 => ?_) (fun hc2 => ?_)
        · try replace hc2 := of_decide_eq_true hc2
          have hn : ¬ (validConvoy p l && validConvoy p2 l2 && validConvoy (max p p2) (l ++ l2)) = true := by revert hc2; cases validConvoy p l <;> cases validConvoy p2 l2 <;> cases validConvoy (max p p2) (l ++ l2) <;> simp
          refine Run.seq ?_
          refine Run.ops ?_
          refine SOps.st rfl rfl (Yv.buildG (pv := []) (cs := [_, _]) (fun _ => [.int .i64 0, .slice none 0 0]) .nil rfl rfl (by kernel_rfl)).yl ?_
          refine SOps.one rfl (One.store (i := 2) (off := 0) (vs := [_, _]) (cs' := [_, _]) (H' := [_, _, _, _, _]) lay27 rfl rfl rfl rfl rfl rfl rfl rfl rfl rfl ?_)
          refine SOps.st rfl rfl (Yv.assign rfl).yl ?_
          refine SOps.nil ?_
          refine Run.ret ?_
          refine retQ.of (.inr rfl) rfl (.cells (i := 2) rfl lay27 rfl rfl (.tmp rfl .nil)) (fun w' hw' => ?_)
          unfold joinP joinL; rw [if_neg hn, if_neg hn, Bool.eq_false_iff.2 hn]; exact ⟨_, _, rfl, hw'.bel.below, ⟨by first | rfl | simp, .inl ⟨rfl, rfl⟩⟩, by simp⟩
        · try replace hc2 := of_decide_eq_false hc2
          have hy : (validConvoy p l && validConvoy p2 l2 && validConvoy (max p p2) (l ++ l2)) = true := by revert hc1 hc2; cases validConvoy p l <;> cases validConvoy p2 l2 <;> cases validConvoy (max p p2) (l ++ l2) <;> simp
          refine Run.skip ?_
          refine Run.seq ?_
          refine Run.ops ?_
          refine SOps.st rfl rfl (Yv.loadBs (i := 0) lay27 rfl rfl rfl rfl).yl ?_
          refine SOps.one rfl (One.store (i := 2) (off := 0) (vs := [_, _]) (cs' := [_, _]) (H' := [_, _, _, _, _]) lay27 rfl rfl rfl rfl rfl rfl rfl rfl rfl rfl ?_)
          refine SOps.st rfl rfl (Yv.assign rfl).yl ?_
          refine SOps.nil ?_
          refine Run.ret ?_
          refine retQ.of (.inr rfl) rfl (.cells (i := 2) rfl lay27 rfl rfl (.tmp rfl .nil)) (fun w' hw' => ?_)
          unfold joinP joinL; rw [if_pos hy, if_pos hy, hy]; exact ⟨_, _, rfl, hw'.bel.below, hw'.ent _ (List.mem_of_getElem? (i := 1) rfl), fun g hg => (hw'.own _ (List.mem_of_getElem? (i := 1) rfl) g hg).elim id (by simp)⟩
    ·
      refine One.alloc rfl zero27 (fun b4 => ?_)
      refine ⟨(List.Sublist.cons _ (List.Sublist.refl _)), ?_⟩
      refine DOps.only (listed' := #[true, true, true, true, true, true, true, true, true, true, false, false, true, false]) 7 rfl (by kernel_rfl) rfl rfl ?_
      refine One.callRow rfl callable70 (.cons rfl (.nil)) (fun w' hw' => copyInts_spec ((Rd.arg hs) w' hw') (by omega)) (fun A1 c1 => ?_)
      refine ⟨(List.Sublist.cons _ (List.Sublist.cons _ (List.Sublist.refl _))), ?_⟩
      refine DOps.only (listed' := #[true, true, true, true, true, true, true, true, true, true, true, false, true, false]) 10 rfl (by kernel_rfl) rfl rfl ?_
      refine One.append (enc := intC) (l := l) (l2 := l2) (m' := (l ++ l2).length) (i := 0) (H' := fun A c => [_, _, _, _, _]) rfl el22 zero3 rfl (by decide) rfl rfl rfl (Rd.arg hs2) (fun _ => rfl) (by simp) (by simp; omega) (by simp; omega) (fun _ _ => rfl) (fun A2 c2 => ?_)
      refine ⟨(List.Sublist.cons _ (List.Sublist.cons _ (List.Sublist.refl _))), ?_⟩
      refine DOps.take (listed' := #[true, true, true, true, true, true, true, true, true, true, true, true, true, false]) 11 rfl (by kernel_rfl) rfl (List.Sublist.cons _ (List.Sublist.cons _ (List.Sublist.refl _))) rfl rfl (Yv.buildG (pv := [(0, _), (1, _)]) (cs := [_, _]) (fun l => match l with | [a0_0, a1_0] => [a0_0, a1_0] | _ => []) (.cons rfl (.cons rfl (.nil))) rfl rfl (by kernel_rfl)) ?_
      refine DOps.only (listed' := #[true, true, true, true, true, true, true, true, true, true, true, true, true, true]) 13 rfl (by kernel_rfl) rfl rfl ?_
      refine One.store (i := 1) (off := 0) (vs := [_, _]) (cs' := [_, _]) (H' := [_, _, _, _, _]) lay27 rfl rfl rfl rfl rfl rfl rfl rfl rfl rfl ?_
      refine ⟨(List.Sublist.cons _ (List.Sublist.cons _ (List.Sublist.refl _))), ?_⟩
      refine DOps.done (by kernel_rfl) ?_
      refine Run.seq ?_
      refine Run.seq ?_
      refine Run.quiet (by intro h; cases h) ?_
      refine QOps.st rfl rfl (Yv.loadBs (i := 1) lay27 rfl rfl rfl rfl).yl ?_
      refine QOps.st rfl rfl (Yl.call callable18 (.cons rfl (.nil)) (fun w' hw' => IsValidConvoy_spec ((Rd.row (i := 0) rfl) w' hw'))) ?_
      refine QOps.st rfl rfl (Yv.not rfl).yl ?_
      refine QOps.nil ?_
      refine Run.cond rfl (fun hc2 => ?_) (fun hc2 => ?_)
      · try replace hc2 := of_decide_eq_true hc2
        have hn : ¬ (validConvoy p l && validConvoy p2 l2 && validConvoy (max p p2) (l ++ l2)) = true := by revert hc2; cases validConvoy p l <;> cases validConvoy p2 l2 <;> cases validConvoy (max p p2) (l ++ l2) <;> simp
        refine Run.seq ?_
        refine Run.ops ?_
        refine SOps.st rfl rfl (Yv.buildG (pv := []) (cs := [_, _]) (fun _ => [.int .i64 0, .slice none 0 0]) .nil rfl rfl (by kernel_rfl)).yl ?_
        refine SOps.one rfl (One.store (i := 2) (off := 0) (vs := [_, _]) (cs' := [_, _]) (H' := [_, _, _, _, _]) lay27 rfl rfl rfl rfl rfl rfl rfl rfl rfl rfl ?_)
        refine SOps.st rfl rfl (Yv.assign rfl).yl ?_
        refine SOps.nil ?_
        refine Run.ret ?_
        refine retQ.of (.inr rfl) rfl (.cells (i := 2) rfl lay27 rfl rfl (.tmp rfl .nil)) (fun w' hw' => ?_)
        unfold joinP joinL; rw [if_neg hn, if_neg hn, Bool.eq_false_iff.2 hn]; exact ⟨_, _, rfl, hw'.bel.below, ⟨by first | rfl | simp, .inl ⟨rfl, rfl⟩⟩, by simp⟩
      · try replace hc2 := of_decide_eq_false hc2
        have hy : (validConvoy p l && validConvoy p2 l2 && validConvoy (max p p2) (l ++ l2)) = true := by revert hc1 hc2; cases validConvoy p l <;> cases validConvoy p2 l2 <;> cases validConvoy (max p p2) (l ++ l2) <;> simp
        refine Run.skip ?_
        refine Run.seq ?_
        refine Run.ops ?_
        refine SOps.st rfl rfl (Yv.loadBs (i := 1) lay27 rfl rfl rfl rfl).yl ?_
        refine SOps.one rfl (One.store (i := 2) (off := 0) (vs := [_, _]) (cs' := [_, _]) (H' := [_, _, _, _, _]) lay27 rfl rfl rfl rfl rfl rfl rfl rfl rfl rfl ?_)
        refine SOps.st rfl rfl (Yv.assign rfl).yl ?_
        refine SOps.nil ?_
        refine Run.ret ?_
        refine retQ.of (.inr rfl) rfl (.cells (i := 2) rfl lay27 rfl rfl (.tmp rfl .nil)) (fun w' hw' => ?_)
        unfold joinP joinL; rw [if_pos hy, if_pos hy, hy]; exact ⟨_, _, rfl, hw'.bel.below, hw'.ent _ (List.mem_of_getElem? (i := 0) rfl), fun g hg => (hw'.own _ (List.mem_of_getElem? (i := 0) rfl) g hg).elim id (by simp)⟩

theorem sJoinConvoys_spec {w : World} {A A2 : Option Addr} {c c2 : Nat} {p p2 : Int} {l l2 : List Int} (hs : Sl w 1 A l.length c (l.flatMap intC)) (hs2 : Sl w 1 A2 l2.length c2 (l2.flatMap intC)) (hl : l.length ≤ 1048576) (hl2 : l2.length ≤ 1048576) :
    Calls Try.prog 36 #[.agg #[.int .i64 p, .slice A l.length c], .agg #[.int .i64 p2, .slice A2 l2.length c2]] w (RetRow w 3 1 (joinL p l p2 l2).length ((joinL p l p2 l2).flatMap intC) (fun v => .tuple #[.agg #[.int .i64 (joinP p l p2 l2), v], .bool (validConvoy p l && validConvoy p2 l2 && validConvoy (max p p2) (l ++ l2))])) := by
  refine calls_of_run (vs := [_, _]) (L := [(0, _), (1, _)]) (n := 34) (F := []) (H := []) Try.func36 rfl rfl rfl rfl (HOk.start _) ?_
  refine Run.seq ?_
  refine Run.ops ?_
  refine SOps.one rfl (One.box (cs := [_, _]) rfl rfl rfl (fun b1 => ?_))
  refine SOps.one rfl (One.box (cs := [_, _]) rfl rfl rfl (fun b2 => ?_))
  refine SOps.one rfl (One.alloc rfl zero27 (fun b3 => ?_))
  refine SOps.st rfl rfl (Yv.assign rfl).yl ?_
  refine SOps.nil ?_
  refine Run.seq ?_
  refine Run.draws (fun H => H) (m := 14) (listed := #[false, false, false, false, false, false, false, false, false, false, false, false, false, false]) (by kernel_rfl) rfl rfl ?_
  refine DOps.take (listed' := #[true, false, false, false, false, false, false, false, false, false, false, false, false, false]) 0 rfl (by kernel_rfl) rfl (List.Sublist.refl _) rfl rfl (Yv.fieldAddr fld27_0 rfl) ?_
  refine DOps.take (listed' := #[true, true, false, false, false, false, false, false, false, false, false, false, false, false]) 1 rfl (by kernel_rfl) rfl (List.Sublist.refl _) rfl rfl (Yv.loadB (i := 2) lay3 rfl rfl rfl rfl) ?_
  refine DOps.take (listed' := #[true, true, true, false, false, false, false, false, false, false, false, false, false, false]) 2 rfl (by kernel_rfl) rfl (List.Sublist.refl _) rfl rfl (Yv.fieldAddr fld27_0 rfl) ?_
  refine DOps.take (listed' := #[true, true, true, true, false, false, false, false, false, false, false, false, false, false]) 3 rfl (by kernel_rfl) rfl (List.Sublist.refl _) rfl rfl (Yv.loadB (i := 1) lay3 rfl rfl rfl rfl) ?_
  refine DOps.take (listed' := #[true, true, true, true, false, true, false, false, false, false, false, false, false, false]) 5 rfl (by kernel_rfl) rfl (List.Sublist.refl _) rfl rfl (Yv.fieldAddr fld27_1 rfl) ?_
  refine DOps.take (listed' := #[true, true, true, true, false, true, true, false, false, false, false, false, false, false]) 6 rfl (by kernel_rfl) rfl (List.Sublist.refl _) rfl rfl (Yv.loadB (i := 2) lay22 rfl rfl rfl rfl) ?_
  refine DOps.take (listed' := #[true, true, true, true, false, true, true, false, true, false, false, false, false, false]) 8 rfl (by kernel_rfl) rfl (List.Sublist.refl _) rfl rfl (Yv.fieldAddr fld27_1 rfl) ?_
  refine DOps.take (listed' := #[true, true, true, true, false, true, true, false, true, true, false, false, false, false]) 9 rfl (by kernel_rfl) rfl (List.Sublist.refl _) rfl rfl (Yv.loadB (i := 1) lay22 rfl rfl rfl rfl) ?_
  refine DOps.fork2 (l1 := #[true, true, true, true, true, true, true, false, true, true, false, false, false, false]) (l2 := #[true, true, true, true, false, true, true, false, true, true, false, false, true, false]) 4 12 rfl rfl (by kernel_rfl) rfl rfl rfl rfl ?_ ?_
  ·
    refine One.st rfl (Yl.call callable73 (.cons rfl (.cons rfl (.nil))) (fun w' hw' => l1Most_spec)) ?_
    refine ⟨(List.Sublist.refl _), ?_⟩
    refine DOps.fork2 (l1 := #[true, true, true, true, true, true, true, true, true, true, false, false, false, false]) (l2 := #[true, true, true, true, true, true, true, false, true, true, false, false, true, false]) 7 12 rfl rfl (by kernel_rfl) rfl rfl rfl rfl ?_ ?_
    ·
      refine One.callRow rfl callable74 (.cons rfl (.nil)) (fun w' hw' => l1Own_spec ((Rd.arg hs) w' hw') (by omega)) (fun A1 c1 => ?_)
      refine ⟨(List.Sublist.cons _ (List.Sublist.refl _)), ?_⟩
      refine DOps.fork2 (l1 := #[true, true, true, true, true, true, true, true, true, true, true, false, false, false]) (l2 := #[true, true, true, true, true, true, true, true, true, true, false, false, true, false]) 10 12 rfl rfl (by kernel_rfl) rfl rfl rfl rfl ?_ ?_
      ·
        refine One.append (enc := intC) (l := l) (l2 := l2) (m' := (l ++ l2).length) (i := 0) (H' := fun A c => [_, _, _, _]) rfl el22 zero3 rfl (by decide) rfl rfl rfl (Rd.arg hs2) (fun _ => rfl) (by simp) (by simp; omega) (by simp; omega) (fun _ _ => rfl) (fun A2 c2 => ?_)
        refine ⟨(List.Sublist.cons _ (List.Sublist.refl _)), ?_⟩
        refine DOps.take (listed' := #[true, true, true, true, true, true, true, true, true, true, true, true, false, false]) 11 rfl (by kernel_rfl) rfl (List.Sublist.cons _ (List.Sublist.refl _)) rfl rfl (Yv.buildG (pv := [(0, _), (1, _)]) (cs := [_, _]) (fun l => match l with | [a0_0, a1_0] => [a0_0, a1_0] | _ => []) (.cons rfl (.cons rfl (.nil))) rfl rfl (by kernel_rfl)) ?_
        refine DOps.only (listed' := #[true, true, true, true, true, true, true, true, true, true, true, true, true, false]) 12 rfl (by kernel_rfl) rfl rfl ?_
        refine One.alloc rfl zero27 (fun b4 => ?_)
        refine ⟨(List.Sublist.cons _ (List.Sublist.cons _ (List.Sublist.refl _))), ?_⟩
        refine DOps.only (listed' := #[true, true, true, true, true, true, true, true, true, true, true, true, true, true]) 13 rfl (by kernel_rfl) rfl rfl ?_
        refine One.store (i := 0) (off := 0) (vs := [_, _]) (cs' := [_, _]) (H' := [_, _, _, _, _]) lay27 rfl rfl rfl rfl rfl rfl rfl rfl rfl rfl ?_
        refine ⟨(List.Sublist.cons _ (List.Sublist.cons _ (List.Sublist.refl _))), ?_⟩
        refine DOps.done (by kernel_rfl) ?_
        refine Run.seq ?_
        refine Run.seq ?_
        refine Run.quiet (by intro h; cases h) ?_
        refine QOps.st rfl rfl (Yv.loadBs (i := 4) lay27 rfl rfl rfl rfl).yl ?_
        refine QOps.st rfl rfl (Yl.call callable54 (.cons rfl (.nil)) (fun w' hw' => l19Good_spec ((Rd.arg hs) w' hw'))) ?_
        refine QOps.st rfl rfl (Yv.not rfl).yl ?_
        refine QOps.st rfl rfl (Yv.move rfl).yl ?_
        refine' QOps.or [_, _, _] _ (.tmp 25) rfl rfl rfl rfl rfl rfl (fun hg1 => ?_) ?_
        rotate_left
        · try replace hg1 := of_decide_eq_false hg1
          refine QOps.st rfl rfl (Yv.loadBs (i := 3) lay27 rfl rfl rfl rfl).yl ?_
          refine QOps.st rfl rfl (Yl.call callable54 (.cons rfl (.nil)) (fun w' hw' => l19Good_spec ((Rd.arg hs2) w' hw'))) ?_
          refine QOps.st rfl rfl (Yv.not rfl).yl ?_
          exact QOps.nil rfl
        refine QOps.st rfl rfl (Yv.move rfl).yl ?_
        refine' QOps.or [_, _, _] _ (.tmp 30) rfl rfl rfl rfl rfl rfl (fun hg2 => ?_) ?_
        rotate_left
        · try replace hg2 := of_decide_eq_false hg2
          refine QOps.st rfl rfl (Yv.loadBs (i := 0) lay27 rfl rfl rfl rfl).yl ?_
          refine QOps.st rfl rfl (Yl.call callable54 (.cons rfl (.nil)) (fun w' hw' => l19Good_spec ((Rd.row (i := 1) rfl) w' hw'))) ?_
          refine QOps.st rfl rfl (Yv.not rfl).yl ?_
          exact QOps.nil rfl
        refine QOps.nil ?_
        refine Run.cond rfl (fun hc1 => ?_) (fun hc1 => ?_)
        · try replace hc1 := of_decide_eq_true hc1
          have hn : ¬ (validConvoy p l && validConvoy p2 l2 && validConvoy (max p p2) (l ++ l2)) = true := by revert hc1; cases validConvoy p l <;> cases validConvoy p2 l2 <;> cases validConvoy (max p p2) (l ++ l2) <;> simp
          refine Run.seq ?_
          refine Run.ops ?_
          refine SOps.st rfl rfl (Yv.buildG (pv := []) (cs := [_, _]) (fun _ => [.int .i64 0, .slice none 0 0]) .nil rfl rfl (by kernel_rfl)).yl ?_
          refine SOps.one rfl (One.store (i := 2) (off := 0) (vs := [_, _]) (cs' := [_, _]) (H' := [_, _, _, _, _]) lay27 rfl rfl rfl rfl rfl rfl rfl rfl rfl rfl ?_)
          refine SOps.st rfl rfl (Yv.assign rfl).yl ?_
          refine SOps.nil ?_
          refine Run.ret ?_
          refine retQ.of (.inr rfl) rfl (.cells (i := 2) rfl lay27 rfl rfl (.tmp rfl .nil)) (fun w' hw' => ?_)
          unfold joinP joinL; rw [if_neg hn, if_neg hn, Bool.eq_false_iff.2 hn]; exact ⟨_, _, rfl, hw'.bel.below, ⟨by first | rfl | simp, .inl ⟨rfl, rfl⟩⟩, by simp⟩
        · try replace hc1 := of_decide_eq_false hc1
          have hy : (validConvoy p l && validConvoy p2 l2 && validConvoy (max p p2) (l ++ l2)) = true := by revert hc1; cases validConvoy p l <;> cases validConvoy p2 l2 <;> cases validConvoy (max p p2) (l ++ l2) <;> simp
          refine Run.skip ?_
          refine Run.seq ?_
          refine Run.ops ?_
          refine SOps.st rfl rfl (Yv.loadBs (i := 0) lay27 rfl rfl rfl rfl).yl ?_
          refine SOps.one rfl (One.store (i := 2) (off := 0) (vs := [_, _]) (cs' := [_, _]) (H' := [_, _, _, _, _]) lay27 rfl rfl rfl rfl rfl rfl rfl rfl rfl rfl ?_)
          refine SOps.st rfl rfl (Yv.assign rfl).yl ?_
          refine SOps.nil ?_
          refine Run.ret ?_
          refine retQ.of (.inr rfl) rfl (.cells (i := 2) rfl lay27 rfl rfl (.tmp rfl .nil)) (fun w' hw' => ?_)
          unfold joinP joinL; rw [if_pos hy, if_pos hy, hy]; exact ⟨_, _, rfl, hw'.bel.below, hw'.ent _ (List.mem_of_getElem? (i := 1) rfl), fun g hg => (hw'.own _ (List.mem_of_getElem? (i := 1) rfl) g hg).elim id (by simp)⟩
      ·
        refine One.alloc rfl zero27 (fun b4 => ?_)
        refine ⟨(List.Sublist.cons _ (List.Sublist.cons _ (List.Sublist.refl _))), ?_⟩
        refine DOps.only (listed' := #[true, true, true, true, true, true, true, true, true, true, true, false, true, false]) 10 rfl (by kernel_rfl) rfl rfl ?_
        refine One.append (enc := intC) (l := l) (l2 := l2) (m' := (l ++ l2).length) (i := 1) (H' := fun A c => [_, _, _, _, _]) rfl el22 zero3 rfl (by decide) rfl rfl rfl (Rd.arg hs2) (fun _ => rfl) (by simp) (by simp; omega) (by simp; omega) (fun _ _ => rfl) (fun A2 c2 => ?_)
        refine ⟨(List.Sublist.cons _ (List.Sublist.cons _ (List.Sublist.refl _))), ?_⟩
        refine DOps.take (listed' := #[true, true, true, true, true, true, true, true, true, true, true, true, true, false]) 11 rfl (by kernel_rfl) rfl (List.Sublist.cons _ (List.Sublist.cons _ (List.Sublist.refl _))) rfl rfl (Yv.buildG (pv := [(0, _), (1, _)]) (cs := [_, _]) (fun l => match l with | [a0_0, a1_0] => [a0_0, a1_0] | _ => []) (.cons rfl (.cons rfl (.nil))) rfl rfl (by kernel_rfl)) ?_
        refine DOps.only (listed' := #[true, true, true, true, true, true, true, true, true, true, true, true, true, true]) 13 rfl (by kernel_rfl) rfl rfl ?_
        refine One.store (i := 0) (off := 0) (vs := [_, _]) (cs' := [_, _]) (H' := [_, _, _, _, _]) lay27 rfl rfl rfl rfl rfl rfl rfl rfl rfl rfl ?_
        refine ⟨(List.Sublist.cons _ (List.Sublist.cons _ (List.Sublist.refl _))), ?_⟩
        refine DOps.done (by kernel_rfl) ?_
        refine Run.seq ?_
        refine Run.seq ?_
        refine Run.quiet (by intro h; cases h) ?_
        refine QOps.st rfl rfl (Yv.loadBs (i := 4) lay27 rfl rfl rfl rfl).yl ?_
        refine QOps.st rfl rfl (Yl.call callable54 (.cons rfl (.nil)) (fun w' hw' => l19Good_spec ((Rd.arg hs) w' hw'))) ?_
        refine QOps.st rfl rfl (Yv.not rfl).yl ?_
        refine QOps.st rfl rfl (Yv.move rfl).yl ?_
        refine' QOps.or [_, _, _] _ (.tmp 25) rfl rfl rfl rfl rfl rfl (fun hg1 => ?_) ?_
        rotate_left
        · try replace hg1 := of_decide_eq_false hg1
          refine QOps.st rfl rfl (Yv.loadBs (i := 3) lay27 rfl rfl rfl rfl).yl ?_
          refine QOps.st rfl rfl (Yl.call callable54 (.cons rfl (.nil)) (fun w' hw' => l19Good_spec ((Rd.arg hs2) w' hw'))) ?_
          refine QOps.st rfl rfl (Yv.not rfl).yl ?_
          exact QOps.nil rfl
        refine QOps.st rfl rfl (Yv.move rfl).yl ?_
        refine' QOps.or [_, _, _] _ (.tmp 30) rfl rfl rfl rfl rfl rfl (fun hg2 => ?_) ?_
        rotate_left
        · try replace hg2 := of_decide_eq_false hg2
          refine QOps.st rfl rfl (Yv.loadBs (i := 0) lay27 rfl rfl rfl rfl).yl ?_
          refine QOps.st rfl rfl (Yl.call callable54 (.cons rfl (.nil)) (fun w' hw' => l19Good_spec ((Rd.row (i := 1) rfl) w' hw'))) ?_
          refine QOps.st rfl rfl (Yv.not rfl).yl ?_
          exact QOps.nil rfl
        refine QOps.nil ?_
        refine Run.cond rfl (fun hc1 => ?_) (fun hc1 => ?_)
        · try replace hc1 := of_decide_eq_true hc1
          have hn : ¬ (validConvoy p l && validConvoy p2 l2 && validConvoy (max p p2) (l ++ l2)) = true := by revert hc1; cases validConvoy p l <;> cases validConvoy p2 l2 <;> cases validConvoy (max p p2) (l ++ l2) <;> simp
          refine Run.seq ?_
          refine Run.ops ?_
          refine SOps.st rfl rfl (Yv.buildG (pv := []) (cs := [_, _]) (fun _ => [.int .i64 0, .slice none 0 0]) .nil rfl rfl (by kernel_rfl)).yl ?_
          refine SOps.one rfl (One.store (i := 2) (off := 0) (vs := [_, _]) (cs' := [_, _]) (H' := [_, _, _, _, _]) lay27 rfl rfl rfl rfl rfl rfl rfl rfl rfl rfl ?_)
          refine SOps.st rfl rfl (Yv.assign rfl).yl ?_
          refine SOps.nil ?_
          refine Run.ret ?_
          refine retQ.of (.inr rfl) rfl (.cells (i := 2) rfl lay27 rfl rfl (.tmp rfl .nil)) (fun w' hw' => ?_)
          unfold joinP joinL; rw [if_neg hn, if_neg hn, Bool.eq_false_iff.2 hn]; exact ⟨_, _, rfl, hw'.bel.below, ⟨by first | rfl | simp, .inl ⟨rfl, rfl⟩⟩, by simp⟩
        · try replace hc1 := of_decide_eq_false hc1
          have hy : (validConvoy p l && validConvoy p2 l2 && validConvoy (max p p2) (l ++ l2)) = true := by revert hc1; cases validConvoy p l <;> cases validConvoy p2 l2 <;> cases validConvoy (max p p2) (l ++ l2) <;> simp
          refine Run.skip ?_
          refine Run.seq ?_
          refine Run.ops ?_
          refine SOps.st rfl rfl (Yv.loadBs (i := 0) lay27 rfl rfl rfl rfl).yl ?_
          refine SOps.one rfl (One.store (i := 2) (off := 0) (vs := [_, _]) (cs' := [_, _]) (H' := [_, _, _, _, _]) lay27 rfl rfl rfl rfl rfl rfl rfl rfl rfl rfl ?_)
          refine SOps.st rfl rfl (Yv.assign rfl).yl ?_
          refine SOps.nil ?_
          refine Run.ret ?_
          refine retQ.of (.inr rfl) rfl (.cells (i := 2) rfl lay27 rfl rfl (.tmp rfl .nil)) (fun w' hw' => ?_)
          unfold joinP joinL; rw [if_pos hy, if_pos hy, hy]; exact ⟨_, _, rfl, hw'.bel.below, hw'.ent _ (List.mem_of_getElem? (i := 1) rfl), fun g hg => (hw'.own _ (List.mem_of_getElem? (i := 1) rfl) g hg).elim id (by simp)⟩
    ·
      refine One.alloc rfl zero27 (fun b4 => ?_)
      refine ⟨(List.Sublist.cons _ (List.Sublist.refl _)), ?_⟩
      refine DOps.only (listed' := #[true, true, true, true, true, true, true, true, true, true, false, false, true, false]) 7 rfl (by kernel_rfl) rfl rfl ?_
      refine One.callRow rfl callable74 (.cons rfl (.nil)) (fun w' hw' => l1Own_spec ((Rd.arg hs) w' hw') (by omega)) (fun A1 c1 => ?_)
      refine ⟨(List.Sublist.cons _ (List.Sublist.cons _ (List.Sublist.refl _))), ?_⟩
      refine DOps.only (listed' := #[true, true, true, true, true, true, true, true, true, true, true, false, true, false]) 10 rfl (by kernel_rfl) rfl rfl ?_
      refine One.append (enc := intC) (l := l) (l2 := l2) (m' := (l ++ l2).length) (i := 0) (H' := fun A c => [_, _, _, _, _]) rfl el22 zero3 rfl (by decide) rfl rfl rfl (Rd.arg hs2) (fun _ => rfl) (by simp) (by simp; omega) (by simp; omega) (fun _ _ => rfl) (fun A2 c2 => ?_)
      refine ⟨(List.Sublist.cons _ (List.Sublist.cons _ (List.Sublist.refl _))), ?_⟩
      refine DOps.take (listed' := #[true, true, true, true, true, true, true, true, true, true, true, true, true, false]) 11 rfl (by kernel_rfl) rfl (List.Sublist.cons _ (List.Sublist.cons _ (List.Sublist.refl _))) rfl rfl (Yv.buildG (pv := [(0, _), (1, _)]) (cs := [_, _]) (fun l => match l with | [a0_0, a1_0] => [a0_0, a1_0] | _ => []) (.cons rfl (.cons rfl (.nil))) rfl rfl (by kernel_rfl)) ?_
      refine DOps.only (listed' := #[true, true, true, true, true, true, true, true, true, true, true, true, true, true]) 13 rfl (by kernel_rfl) rfl rfl ?_
      refine One.store (i := 1) (off := 0) (vs := [_, _]) (cs' := [_, _]) (H' := [_, _, _, _, _]) lay27 rfl rfl rfl rfl rfl rfl rfl rfl rfl rfl ?_
      refine ⟨(List.Sublist.cons _ (List.Sublist.cons _ (List.Sublist.refl _))), ?_⟩
      refine DOps.done (by kernel_rfl) ?_
      refine Run.seq ?_
      refine Run.seq ?_
      refine Run.quiet (by intro h; cases h) ?_
      refine QOps.st rfl rfl (Yv.loadBs (i := 4) lay27 rfl rfl rfl rfl).yl ?_
      refine QOps.st rfl rfl (Yl.call callable54 (.cons rfl (.nil)) (fun w' hw' => l19Good_spec ((Rd.arg hs) w' hw'))) ?_
      refine QOps.st rfl rfl (Yv.not rfl).yl ?_
      refine QOps.st rfl rfl (Yv.move rfl).yl ?_
      refine' QOps.or [_, _, _] _ (.tmp 25) rfl rfl rfl rfl rfl rfl (fun hg1 => ?_) ?_
      rotate_left
      · try replace hg1 := of_decide_eq_false hg1
        refine QOps.st rfl rfl (Yv.loadBs (i := 3) lay27 rfl rfl rfl rfl).yl ?_
        refine QOps.st rfl rfl (Yl.call callable54 (.cons rfl (.nil)) (fun w' hw' => l19Good_spec ((Rd.arg hs2) w' hw'))) ?_
        refine QOps.st rfl rfl (Yv.not rfl).yl ?_
        exact QOps.nil rfl
      refine QOps.st rfl rfl (Yv.move rfl).yl ?_
      refine' QOps.or [_, _, _] _ (.tmp 30) rfl rfl rfl rfl rfl rfl (fun hg2 => ?_) ?_
      rotate_left
      · try replace hg2 := of_decide_eq_false hg2
        refine QOps.st rfl rfl (Yv.loadBs (i := 1) lay27 rfl rfl rfl rfl).yl ?_
        refine QOps.st rfl rfl (Yl.call callable54 (.cons rfl (.nil)) (fun w' hw' => l19Good_spec ((Rd.row (i := 0) rfl) w' hw'))) ?_
        refine QOps.st rfl rfl (Yv.not rfl).yl ?_
        exact QOps.nil rfl
      refine QOps.nil ?_
      refine Run.cond rfl (fun hc1 => ?_) (fun hc1 => ?_)
      · try replace hc1 := of_decide_eq_true hc1
        have hn : ¬ (validConvoy p l && validConvoy p2 l2 && validConvoy (max p p2) (l ++ l2)) = true := by revert hc1; cases validConvoy p l <;> cases validConvoy p2 l2 <;> cases validConvoy (max p p2) (l ++ l2) <;> simp
        refine Run.seq ?_
        refine Run.ops ?_
        refine SOps.st rfl rfl (Yv.buildG (pv := []) (cs := [_, _]) (fun _ => [.int .i64 0, .slice none 0 0]) .nil rfl rfl (by kernel_rfl)).yl ?_
        refine SOps.one rfl (One.store (i := 2) (off := 0) (vs := [_, _]) (cs' := [_, _]) (H' := [_, _, _, _, _]) lay27 rfl rfl rfl rfl rfl rfl rfl rfl rfl rfl ?_)
        refine SOps.st rfl rfl (Yv.assign rfl).yl ?_
        refine SOps.nil ?_
        refine Run.ret ?_
        refine retQ.of (.inr rfl) rfl (.cells (i := 2) rfl lay27 rfl rfl (.tmp rfl .nil)) (fun w' hw' => ?_)
        unfold joinP joinL; rw [if_neg hn, if_neg hn, Bool.eq_false_iff.2 hn]; exact ⟨_, _, rfl, hw'.bel.below, ⟨by first | rfl | simp, .inl ⟨rfl, rfl⟩⟩, by simp⟩
      · try replace hc1 := of_decide_eq_false hc1
        have hy : (validConvoy p l && validConvoy p2 l2 && validConvoy (max p p2) (l ++ l2)) = true := by revert hc1; cases validConvoy p l <;> cases validConvoy p2 l2 <;> cases validConvoy (max p p2) (l ++ l2) <;> simp
        refine Run.skip ?_
        refine Run.seq ?_
        refine Run.ops ?_
        refine SOps.st rfl rfl (Yv.loadBs (i := 1) lay27 rfl rfl rfl rfl).yl ?_
        refine SOps.one rfl (One.store (i := 2) (off := 0) (vs := [_, _]) (cs' := [_, _]) (H' := [_, _, _, _, _]) lay27 rfl rfl rfl rfl rfl rfl rfl rfl rfl rfl ?_)
        refine SOps.st rfl rfl (Yv.assign rfl).yl ?_
        refine SOps.nil ?_
        refine Run.ret ?_
        refine retQ.of (.inr rfl) rfl (.cells (i := 2) rfl lay27 rfl rfl (.tmp rfl .nil)) (fun w' hw' => ?_)
        unfold joinP joinL; rw [if_pos hy, if_pos hy, hy]; exact ⟨_, _, rfl, hw'.bel.below, hw'.ent _ (List.mem_of_getElem? (i := 0) rfl), fun g hg => (hw'.own _ (List.mem_of_getElem? (i := 0) rfl) g hg).elim id (by simp)⟩
  ·
    refine One.alloc rfl zero27 (fun b4 => ?_)
    refine ⟨(List.Sublist.cons _ (List.Sublist.refl _)), ?_⟩
    refine DOps.only (listed' := #[true, true, true, true, true, true, true, false, true, true, false, false, true, false]) 4 rfl (by kernel_rfl) rfl rfl ?_
    refine One.st rfl (Yl.call callable73 (.cons rfl (.cons rfl (.nil))) (fun w' hw' => l1Most_spec)) ?_
    refine ⟨(List.Sublist.cons _ (List.Sublist.refl _)), ?_⟩
    refine DOps.only (listed' := #[true, true, true, true, true, true, true, true, true, true, false, false, true, false]) 7 rfl (by kernel_rfl) rfl rfl ?_
    refine One.callRow rfl callable74 (.cons rfl (.nil)) (fun w' hw' => l1Own_spec ((Rd.arg hs) w' hw') (by omega)) (fun A1 c1 => ?_)
    refine ⟨(List.Sublist.cons _ (List.Sublist.cons _ (List.Sublist.refl _))), ?_⟩
    refine DOps.only (listed' := #[true, true, true, true, true, true, true, true, true, true, true, false, true, false]) 10 rfl (by kernel_rfl) rfl rfl ?_
    refine One.append (enc := intC) (l := l) (l2 := l2) (m' := (l ++ l2).length) (i := 0) (H' := fun A c => [_, _, _, _, _]) rfl el22 zero3 rfl (by decide) rfl rfl rfl (Rd.arg hs2) (fun _ => rfl) (by simp) (by simp; omega) (by simp; omega) (fun _ _ => rfl) (fun A2 c2 => ?_)
    refine ⟨(List.Sublist.cons _ (List.Sublist.cons _ (List.Sublist.refl _))), ?_⟩
    refine DOps.take (listed' := #[true, true, true, true, true, true, true, true, true, true, true, true, true, false]) 11 rfl (by kernel_rfl) rfl (List.Sublist.cons _ (List.Sublist.cons _ (List.Sublist.refl _))) rfl rfl (Yv.buildG (pv := [(0, _), (1, _)]) (cs := [_, _]) (fun l => match l with | [a0_0, a1_0] => [a0_0, a1_0] | _ => []) (.cons rfl (.cons rfl (.nil))) rfl rfl (by kernel_rfl)) ?_
    refine DOps.only (listed' := #[true, true, true, true, true, true, true, true, true, true, true, true, true, true]) 13 rfl (by kernel_rfl) rfl rfl ?_
    refine One.store (i := 1) (off := 0) (vs := [_, _]) (cs' := [_, _]) (H' := [_, _, _, _, _]) lay27 rfl rfl rfl rfl rfl rfl rfl rfl rfl rfl ?_
    refine ⟨(List.Sublist.cons _ (List.Sublist.cons _ (List.Sublist.refl _))), ?_⟩
    refine DOps.done (by kernel_rfl) ?_
    refine Run.seq ?_
    refine Run.seq ?_
    refine Run.quiet (by intro h; cases h) ?_
    refine QOps.st rfl rfl (Yv.loadBs (i := 4) lay27 rfl rfl rfl rfl).yl ?_
    refine QOps.st rfl rfl (Yl.call callable54 (.cons rfl (.nil)) (fun w' hw' => l19Good_spec ((Rd.arg hs) w' hw'))) ?_
    refine QOps.st rfl rfl (Yv.not rfl).yl ?_
    refine QOps.st rfl rfl (Yv.move rfl).yl ?_
    refine' QOps.or [_, _, _] _ (.tmp 25) rfl rfl rfl rfl rfl rfl (fun hg1 => ?_) ?_
    rotate_left
    · try replace hg1 := of_decide_eq_false hg1
      refine QOps.st rfl rfl (Yv.loadBs (i := 3) lay27 rfl rfl rfl rfl).yl ?_
      refine QOps.st rfl rfl (Yl.call callable54 (.cons rfl (.nil)) (fun w' hw' => l19Good_spec ((Rd.arg hs2) w' hw'))) ?_
      refine QOps.st rfl rfl (Yv.not rfl).yl ?_
      exact QOps.nil rfl
    refine QOps.st rfl rfl (Yv.move rfl).yl ?_
    refine' QOps.or [_, _, _] _ (.tmp 30) rfl rfl rfl rfl rfl rfl (fun hg2 => ?_) ?_
    rotate_left
    · try replace hg2 := of_decide_eq_false hg2
      refine QOps.st rfl rfl (Yv.loadBs (i := 1) lay27 rfl rfl rfl rfl).yl ?_
      refine QOps.st rfl rfl (Yl.call callable54 (.cons rfl (.nil)) (fun w' hw' => l19Good_spec ((Rd.row (i := 0) rfl) w' hw'))) ?_
      refine QOps.st rfl rfl (Yv.not rfl).yl ?_
      exact QOps.nil rfl
    refine QOps.nil ?_
    refine Run.cond rfl (fun hc1 => ?_) (fun hc1 => ?_)
    · try replace hc1 := of_decide_eq_true hc1
      have hn : ¬ (validConvoy p l && validConvoy p2 l2 && validConvoy (max p p2) (l ++ l2)) = true := by revert hc1; cases validConvoy p l <;> cases validConvoy p2 l2 <;> cases validConvoy (max p p2) (l ++ l2) <;> simp
      refine Run.seq ?_
      refine Run.ops ?_
      refine SOps.st rfl rfl (Yv.buildG (pv := []) (cs := [_, _]) (fun _ => [.int .i64 0, .slice none 0 0]) .nil rfl rfl (by kernel_rfl)).yl ?_
      refine SOps.one rfl (One.store (i := 2) (off := 0) (vs := [_, _]) (cs' := [_, _]) (H' := [_, _, _, _, _]) lay27 rfl rfl rfl rfl rfl rfl rfl rfl rfl rfl ?_)
      refine SOps.st rfl rfl (Yv.assign rfl).yl ?_
      refine SOps.nil ?_
      refine Run.ret ?_
      refine retQ.of (.inr rfl) rfl (.cells (i := 2) rfl lay27 rfl rfl (.tmp rfl .nil)) (fun w' hw' => ?_)
      unfold joinP joinL; rw [if_neg hn, if_neg hn, Bool.eq_false_iff.2 hn]; exact ⟨_, _, rfl, hw'.bel.below, ⟨by first | rfl | simp, .inl ⟨rfl, rfl⟩⟩, by simp⟩
    · try replace hc1 := of_decide_eq_false hc1
      have hy : (validConvoy p l && validConvoy p2 l2 && validConvoy (max p p2) (l ++ l2)) = true := by revert hc1; cases validConvoy p l <;> cases validConvoy p2 l2 <;> cases validConvoy (max p p2) (l ++ l2) <;> simp
      refine Run.skip ?_
      refine Run.seq ?_
      refine Run.ops ?_
      refine SOps.st rfl rfl (Yv.loadBs (i := 1) lay27 rfl rfl rfl rfl).yl ?_
      refine SOps.one rfl (One.store (i := 2) (off := 0) (vs := [_, _]) (cs' := [_, _]) (H' := [_, _, _, _, _]) lay27 rfl rfl rfl rfl rfl rfl rfl rfl rfl rfl ?_)
      refine SOps.st rfl rfl (Yv.assign rfl).yl ?_
      refine SOps.nil ?_
      refine Run.ret ?_
      refine retQ.of (.inr rfl) rfl (.cells (i := 2) rfl lay27 rfl rfl (.tmp rfl .nil)) (fun w' hw' => ?_)
      unfold joinP joinL; rw [if_pos hy, if_pos hy, hy]; exact ⟨_, _, rfl, hw'.bel.below, hw'.ent _ (List.mem_of_getElem? (i := 0) rfl), fun g hg => (hw'.own _ (List.mem_of_getElem? (i := 0) rfl) g hg).elim id (by simp)⟩

end Go.Proofs.Ytfpglglolhlegaa
