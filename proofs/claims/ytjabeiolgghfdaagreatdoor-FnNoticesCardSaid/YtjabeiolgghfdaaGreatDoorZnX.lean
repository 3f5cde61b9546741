/- Notices: what a trip meets; those that have ended are struck out. Conditions: none. -/
import Derived.Test.YtjabeiolgghfdaaGreatDoorZnM
namespace Go.Proofs.YtjabeiolgghfdaaGreatDoor
open Go.RowKit
set_option maxRecDepth 100000
theorem l1Most_spec {w : World} {n m : Int} : Calls Tryz.prog 66 #[.int .i64 n, .int .i64 m] w (RetB w (.int .i64 (max n m))) := by
  refine calls_of_run (vs := [_, _]) (L := [(0, _), (1, _)]) (n := 10) (F := []) (H := []) Tryz.func66 rfl rfl rfl rfl (HOk.start _) ?_
  refine Run.seq ?_
  refine Run.quiet (by intro h; cases h) ?_
  refine QOps.st rfl rfl (Yv.assign rfl).yl ?_
  refine QOps.nil ?_
  refine Run.seq ?_
  refine Run.seq ?_
  refine Run.quiet (by intro h; cases h) ?_
  refine QOps.st rfl rfl (Yv.move rfl).yl ?_
  refine QOps.st rfl rfl (Yv.move rfl).yl ?_
  refine QOps.st rfl rfl (Yv.gtr rfl rfl).yl ?_
  refine QOps.nil ?_
  refine Run.cond rfl (fun hc1 => ?_) (fun hc1 => ?_)
  · try replace hc1 := of_decide_eq_true hc1
    refine Run.seq ?_
    refine Run.quiet (by intro h; cases h) ?_
    refine QOps.st rfl rfl (Yv.move rfl).yl ?_
    refine QOps.st rfl rfl (Yv.assign rfl).yl ?_
    refine QOps.nil ?_
    refine Run.ret ?_
    refine retQ.of (.inr rfl) rfl (.tmp rfl .nil) (fun w' hw' => ?_)
    refine ⟨?_, hw'.bel.below⟩
    refine retI_eq ?_
    omega
  · try replace hc1 := of_decide_eq_false hc1
    refine Run.skip ?_
    refine Run.seq ?_
    refine Run.quiet (by intro h; cases h) ?_
    refine QOps.st rfl rfl (Yv.move rfl).yl ?_
    refine QOps.st rfl rfl (Yv.assign rfl).yl ?_
    refine QOps.nil ?_
    refine Run.ret ?_
    refine retQ.of (.inr rfl) rfl (.tmp rfl .nil) (fun w' hw' => ?_)
    refine ⟨?_, hw'.bel.below⟩
    refine retI_eq ?_
    omega

theorem l1Least_spec {w : World} {n m : Int} : Calls Tryz.prog 49 #[.int .i64 n, .int .i64 m] w (RetB w (.int .i64 (min n m))) := by
  refine calls_of_run (vs := [_, _]) (L := [(0, _), (1, _)]) (n := 10) (F := []) (H := []) Tryz.func49 rfl rfl rfl rfl (HOk.start _) ?_
  refine Run.seq ?_
  refine Run.quiet (by intro h; cases h) ?_
  refine QOps.st rfl rfl (Yv.assign rfl).yl ?_
  refine QOps.nil ?_
  refine Run.seq ?_
  refine Run.seq ?_
  refine Run.quiet (by intro h; cases h) ?_
  refine QOps.st rfl rfl (Yv.move rfl).yl ?_
  refine QOps.st rfl rfl (Yv.move rfl).yl ?_
  refine QOps.st rfl rfl (Yv.lss rfl rfl).yl ?_
  refine QOps.nil ?_
  refine Run.cond rfl (fun hc1 => ?_) (fun hc1 => ?_)
  · try replace hc1 := of_decide_eq_true hc1
    refine Run.seq ?_
    refine Run.quiet (by intro h; cases h) ?_
    refine QOps.st rfl rfl (Yv.move rfl).yl ?_
    refine QOps.st rfl rfl (Yv.assign rfl).yl ?_
    refine QOps.nil ?_
    refine Run.ret ?_
    refine retQ.of (.inr rfl) rfl (.tmp rfl .nil) (fun w' hw' => ?_)
    refine ⟨?_, hw'.bel.below⟩
    refine retI_eq ?_
    omega
  · try replace hc1 := of_decide_eq_false hc1
    refine Run.skip ?_
    refine Run.seq ?_
    refine Run.quiet (by intro h; cases h) ?_
    refine QOps.st rfl rfl (Yv.move rfl).yl ?_
    refine QOps.st rfl rfl (Yv.assign rfl).yl ?_
    refine QOps.nil ?_
    refine Run.ret ?_
    refine retQ.of (.inr rfl) rfl (.tmp rfl .nil) (fun w' hw' => ?_)
    refine ⟨?_, hw'.bel.below⟩
    refine retI_eq ?_
    omega

theorem noticeOk_way {n : Notice} (h : noticeOk n = true) : n.start ≤ n.stop := by
  simp only [noticeOk, nBase, Bool.and_eq_true, inB_iff] at h
  omega
def badNotice (ns : List Notice) (k : Nat) : Bool := !noticeOk (nth ns k) || (decide ((0 : Int) < (k : Int)) && decide ((nth ns k).id ≤ (nth ns (k - 1)).id))
/-- At most ten notices, each as it should be, by ever greater numbers. -/
def areNotices (ns : List Notice) : Bool := allTo ns.length (fun k => !badNotice ns k) && decide ((ns.length : Int) ≤ 10)
theorem areNotices_way {ns : List Notice} (h : areNotices ns = true) {k : Nat} (hk : k < ns.length) : (nth ns k).start ≤ (nth ns k).stop := by
  simp only [areNotices, Bool.and_eq_true, allTo_iff] at h
  have h1 := h.1 k hk
  simp only [badNotice, Bool.not_eq_true', Bool.or_eq_false_iff, Bool.not_eq_false'] at h1
  exact noticeOk_way h1.1
theorem l22Good_spec {w : World} {A : Option Addr} {c : Nat} {ns : List Notice} (hs : Sl w 7 A ns.length c (ns.flatMap Notice.enc)) :
    Calls Tryz.prog 45 #[.slice A ns.length c] w (RetB w (.bool (areNotices ns))) := by
  have hmx := Sl.lenle hs
  refine calls_of_run (vs := [_]) (L := [(0, _)]) (n := 37) (F := []) (H := []) Tryz.func45 rfl rfl rfl rfl (HOk.start _) ?_
  refine Run.seq ?_
  refine Run.quiet (by intro h; cases h) ?_
  refine QOps.st rfl rfl (Yv.assign rfl).yl ?_
  refine QOps.nil ?_
  refine Run.seq ?_
  refine Run.seq ?_
  refine Run.quiet (by intro h; cases h) ?_
  refine QOps.st rfl rfl (Yv.assign rfl).yl ?_
  refine QOps.nil ?_
  refine Run.block ?_
  refine Run.loop (S := Nat) (fun s => match s with | k => k ≤ ns.length ∧ ∀ i, i < k → badNotice ns i = false) (fun s => match s with | k => [(0, .slice A ns.length c), (3, .int .i64 (k : Int))]) (fun s => match s with | k => []) (fun s => match s with | k => ns.length - k) 0 ?_ (SubE.cons rfl (SubE.cons rfl (SubE.nil _))) (List.Sublist.refl _) ?_
  · exact ⟨by omega, fun i hi => by omega⟩
  · rintro k ⟨hk, hall⟩
    show Run _ _ _ _ _ [(0, .slice A ns.length c), (3, .int .i64 (k : Int))] [] _
    refine Run.seq ?_
    refine Run.seq ?_
    refine Run.quiet (by intro h; cases h) ?_
    refine QOps.st rfl rfl (Yv.move rfl).yl ?_
    refine QOps.st rfl rfl (Yv.move rfl).yl ?_
    refine QOps.st rfl rfl (Yv.lenS el32s rfl).yl ?_
    refine QOps.st rfl rfl (Yv.lss rfl rfl).yl ?_
    refine QOps.nil ?_
    refine Run.cond rfl (fun hc1 => ?_) (fun hc1 => ?_)
    · try replace hc1 := of_decide_eq_true hc1
      refine Run.skip ?_
      refine Run.seq ?_
      refine Run.block ?_
      refine Run.seq ?_
      refine Run.quiet (fun _ => ⟨by kernel_rfl, by kernel_rfl⟩) ?_
      refine QOps.st rfl rfl (Yv.move rfl).yl ?_
      refine QOps.st rfl rfl (Yv.move rfl).yl ?_
      refine QOps.st rfl rfl (Yv.indexAddr k el32 rfl rfl rfl (Rd.arg hs) (by omega)).yl ?_
      refine QOps.st rfl rfl (Yv.loadEs lay25 rfl Notice.len (Rd.arg hs) (by first | omega | (simp; omega)) (by decide)).yl ?_
      refine QOps.st rfl rfl (Yl.call callable24 (.cons rfl (.nil)) (fun w' hw' => l22One_spec)) ?_
      refine QOps.st rfl rfl (Yv.not rfl).yl ?_
      refine QOps.st rfl rfl (Yv.move rfl).yl ?_
      refine' QOps.or [_, _, _, _, _, _, _, _, _, _, _, _, _, _, _, _] _ (.tmp 32) rfl rfl rfl rfl rfl rfl (fun hg1 => ?_) ?_
      rotate_left
      · try replace hg1 := of_decide_eq_false hg1
        refine QOps.st rfl rfl (Yv.move rfl).yl ?_
        refine QOps.st rfl rfl (Yv.gtr rfl rfl).yl ?_
        refine QOps.st rfl rfl (Yv.move rfl).yl ?_
        refine' QOps.and [_, _, _, _, _, _, _, _, _, _, _, _] _ (.tmp 31) rfl rfl rfl rfl rfl rfl (fun hg2 => ?_) ?_
        rotate_left
        · try replace hg2 := of_decide_eq_true hg2
          refine QOps.st rfl rfl (Yv.move rfl).yl ?_
          refine QOps.st rfl rfl (Yv.move rfl).yl ?_
          refine QOps.st rfl rfl (Yv.sub rfl rfl (by omega)).yl ?_
          refine QOps.st rfl rfl (Yv.indexAddr (k - 1) el32 rfl rfl (by omega) (Rd.arg hs) (by omega)).yl ?_
          refine QOps.st rfl rfl (Yv.fieldAddr fld25_0 rfl).yl ?_
          refine QOps.st rfl rfl (Yv.loadF lay3 rfl Notice.len (Rd.arg hs) (by first | omega | (simp; omega)) (by decide) rfl).yl ?_
          refine QOps.st rfl rfl (Yv.move rfl).yl ?_
          refine QOps.st rfl rfl (Yv.move rfl).yl ?_
          refine QOps.st rfl rfl (Yv.indexAddr k el32 rfl rfl rfl (Rd.arg hs) (by omega)).yl ?_
          refine QOps.st rfl rfl (Yv.fieldAddr fld25_0 rfl).yl ?_
          refine QOps.st rfl rfl (Yv.loadF lay3 rfl Notice.len (Rd.arg hs) (by first | omega | (simp; omega)) (by decide) rfl).yl ?_
          refine QOps.st rfl rfl (Yv.geq rfl rfl).yl ?_
          exact QOps.nil rfl
        exact QOps.nil rfl
      refine QOps.nil ?_
      refine Run.cond rfl (fun hc2 => ?_) (fun hc2 => ?_)
      · try replace hc2 := of_decide_eq_true hc2
        refine Run.seq ?_
        refine Run.quiet (by intro h; cases h) ?_
        refine QOps.st rfl rfl (Yv.assign rfl).yl ?_
        refine QOps.nil ?_
        refine Run.ret ?_
        refine retQ.of (.inr rfl) rfl (.tmp rfl .nil) (fun w' hw' => ?_)
        refine ⟨?_, hw'.bel.below⟩
        refine retB_eq ?_
        unfold areNotices
        rw [allTo_false (i := k) (by omega) (by show (!badNotice ns k) = false; rw [show badNotice ns k = true from hc2]; rfl)]; rfl
      · try replace hc2 := of_decide_eq_false hc2
        refine Run.skip ?_
        refine Run.quiet (by intro h; cases h) ?_
        refine QOps.st rfl rfl (Yv.move rfl).yl ?_
        refine QOps.st rfl rfl (Yv.succN rfl rfl (by omega)).yl ?_
        refine QOps.st rfl rfl (Yv.assign rfl).yl ?_
        refine QOps.nil ?_
        refine ⟨k + 1, ?_, ?_, (SubE.cons rfl (SubE.cons rfl (SubE.nil _))), (List.Sublist.refl _)⟩
        · exact ⟨by omega, all_succ hall hc2⟩
        · first | omega | (dsimp only; omega)
    · try replace hc1 := of_decide_eq_false hc1
      refine Run.exit ?_
      refine Run.seq ?_
      refine Run.quiet (by intro h; cases h) ?_
      refine QOps.st rfl rfl (Yv.move rfl).yl ?_
      refine QOps.st rfl rfl (Yv.lenS el32s rfl).yl ?_
      refine QOps.st rfl rfl (Yv.leq rfl rfl).yl ?_
      refine QOps.st rfl rfl (Yv.assign rfl).yl ?_
      refine QOps.nil ?_
      refine Run.ret ?_
      refine retQ.of (.inr rfl) rfl (.tmp rfl .nil) (fun w' hw' => ?_)
      refine ⟨?_, hw'.bel.below⟩
      refine retB_eq ?_
      obtain rfl : k = ns.length := by omega
      unfold areNotices
      rw [allTo_iff.2 (fun i hi => by simpa using hall i hi)]; rfl

theorem AreNotices_spec {w : World} {A : Option Addr} {c : Nat} {ns : List Notice} (hs : Sl w 7 A ns.length c (ns.flatMap Notice.enc)) :
    Calls Tryz.prog 16 #[.slice A ns.length c] w (RetB w (.bool (areNotices ns))) := by
  have hmx := Sl.lenle hs
  refine calls_of_run (vs := [_]) (L := [(0, _)]) (n := 34) (F := []) (H := []) Tryz.func16 rfl rfl rfl rfl (HOk.start _) ?_
  refine Run.seq ?_
  refine Run.quiet (by intro h; cases h) ?_
  refine QOps.st rfl rfl (Yv.assign rfl).yl ?_
  refine QOps.nil ?_
  refine Run.seq ?_
  refine Run.seq ?_
  refine Run.quiet (by intro h; cases h) ?_
  refine QOps.st rfl rfl (Yv.move rfl).yl ?_
  refine QOps.st rfl rfl (Yv.lenS el32s rfl).yl ?_
  refine QOps.st rfl rfl (Yv.move rfl).yl ?_
  refine QOps.nil ?_
  refine Run.block ?_
  refine Run.loop (S := Nat) (fun s => match s with | k => k ≤ ns.length ∧ ∀ i, i < k → badNotice ns i = false) (fun s => match s with | k => [(0, .slice A ns.length c), (5, .slice A ns.length c), (6, .int .i64 (ns.length : Int)), (7, .int .i64 (k : Int))]) (fun s => match s with | k => []) (fun s => match s with | k => ns.length - k) 0 ?_ (SubE.cons rfl (SubE.cons rfl (SubE.cons rfl (SubE.cons rfl (SubE.nil _))))) (List.Sublist.refl _) ?_
  · exact ⟨by omega, fun i hi => by omega⟩
  · rintro k ⟨hk, hall⟩
    show Run _ _ _ _ _ [(0, .slice A ns.length c), (5, .slice A ns.length c), (6, .int .i64 (ns.length : Int)), (7, .int .i64 (k : Int))] [] _
    refine Run.seq ?_
    refine Run.quiet (by intro h; cases h) ?_
    refine QOps.st rfl rfl (Yv.lss rfl rfl).yl ?_
    refine QOps.nil ?_
    refine Run.seq ?_
    refine Run.cond rfl (fun hc1 => ?_) (fun hc1 => ?_)
    · try replace hc1 := of_decide_eq_true hc1
      refine Run.skip ?_
      refine Run.seq ?_
      refine Run.block ?_
      refine Run.seq ?_
      refine Run.ops ?_
      refine SOps.st rfl rfl (Yv.move rfl).yl ?_
      refine SOps.st rfl rfl (Yv.indexAddr k el32 rfl rfl rfl (Rd.arg hs) (by omega)).yl ?_
      refine SOps.st rfl rfl (Yv.loadEs lay25 rfl Notice.len (Rd.arg hs) (by first | omega | (simp; omega)) (by decide)).yl ?_
      refine SOps.one rfl (One.alloc rfl zero25 (fun b1 => ?_))
      refine SOps.st rfl rfl (Yv.assign rfl).yl ?_
      refine SOps.one rfl (One.store (i := 0) (off := 0) (vs := [_, _, _, _, _, _, _]) (cs' := [_, _, _, _, _, _, _]) (H' := [_]) lay25 rfl rfl rfl rfl rfl rfl rfl rfl rfl rfl ?_)
      refine SOps.nil ?_
      refine Run.seq ?_
      refine Run.quiet (fun _ => ⟨by kernel_rfl, by kernel_rfl⟩) ?_
      refine QOps.st rfl rfl (Yv.loadBs (i := 0) lay25 rfl rfl rfl rfl).yl ?_
      refine QOps.st rfl rfl (Yl.call callable22 (.cons rfl (.nil)) (fun w' hw' => isNotice_spec)) ?_
      refine QOps.st rfl rfl (Yv.not rfl).yl ?_
      refine QOps.st rfl rfl (Yv.move rfl).yl ?_
      refine' QOps.or [_, _, _, _, _, _, _, _, _, _, _, _, _] _ (.tmp 28) rfl rfl rfl rfl rfl rfl (fun hg1 => ?_) ?_
      rotate_left
      · try replace hg1 := of_decide_eq_false hg1
        refine QOps.st rfl rfl (Yv.move rfl).yl ?_
        refine QOps.st rfl rfl (Yv.gtr rfl rfl).yl ?_
        refine QOps.st rfl rfl (Yv.move rfl).yl ?_
        refine' QOps.and [_, _, _, _, _, _, _, _, _] _ (.tmp 27) rfl rfl rfl rfl rfl rfl (fun hg2 => ?_) ?_
        rotate_left
        · try replace hg2 := of_decide_eq_true hg2
          refine QOps.st rfl rfl (Yv.move rfl).yl ?_
          refine QOps.st rfl rfl (Yv.move rfl).yl ?_
          refine QOps.st rfl rfl (Yv.sub rfl rfl (by omega)).yl ?_
          refine QOps.st rfl rfl (Yv.indexAddr (k - 1) el32 rfl rfl (by omega) (Rd.arg hs) (by omega)).yl ?_
          refine QOps.st rfl rfl (Yv.fieldAddr fld25_0 rfl).yl ?_
          refine QOps.st rfl rfl (Yv.loadF lay3 rfl Notice.len (Rd.arg hs) (by first | omega | (simp; omega)) (by decide) rfl).yl ?_
          refine QOps.st rfl rfl (Yv.fieldAddr fld25_0 rfl).yl ?_
          refine QOps.st rfl rfl (Yv.loadB (i := 0) lay3 rfl rfl rfl rfl).yl ?_
          refine QOps.st rfl rfl (Yv.geq rfl rfl).yl ?_
          exact QOps.nil rfl
        exact QOps.nil rfl
      refine QOps.nil ?_
      refine Run.cond rfl (fun hc2 => ?_) (fun hc2 => ?_)
      · try replace hc2 := of_decide_eq_true hc2
        refine Run.seq ?_
        refine Run.quiet (by intro h; cases h) ?_
        refine QOps.st rfl rfl (Yv.assign rfl).yl ?_
        refine QOps.nil ?_
        refine Run.ret ?_
        refine retQ.of (.inr rfl) rfl (.tmp rfl .nil) (fun w' hw' => ?_)
        refine ⟨?_, hw'.bel.below⟩
        refine retB_eq ?_
        unfold areNotices
        rw [allTo_false (i := k) (by omega) (by show (!badNotice ns k) = false; rw [show badNotice ns k = true from hc2]; rfl)]; rfl
      · try replace hc2 := of_decide_eq_false hc2
        refine Run.skip ?_
        refine Run.quiet (by intro h; cases h) ?_
        refine QOps.st rfl rfl (Yv.succN rfl rfl (by omega)).yl ?_
        refine QOps.st rfl rfl (Yv.move rfl).yl ?_
        refine QOps.nil ?_
        refine ⟨k + 1, ?_, ?_, (SubE.cons rfl (SubE.cons rfl (SubE.cons rfl (SubE.cons rfl (SubE.nil _))))), (List.Sublist.cons _ (List.Sublist.refl _))⟩
        · exact ⟨by omega, all_succ hall hc2⟩
        · first | omega | (dsimp only; omega)
    · try replace hc1 := of_decide_eq_false hc1
      refine Run.exit ?_
      refine Run.seq ?_
      refine Run.quiet (by intro h; cases h) ?_
      refine QOps.st rfl rfl (Yv.move rfl).yl ?_
      refine QOps.st rfl rfl (Yv.lenS el32s rfl).yl ?_
      refine QOps.st rfl rfl (Yv.leq rfl rfl).yl ?_
      refine QOps.st rfl rfl (Yv.assign rfl).yl ?_
      refine QOps.nil ?_
      refine Run.ret ?_
      refine retQ.of (.inr rfl) rfl (.tmp rfl .nil) (fun w' hw' => ?_)
      refine ⟨?_, hw'.bel.below⟩
      refine retB_eq ?_
      obtain rfl : k = ns.length := by omega
      unfold areNotices
      rw [allTo_iff.2 (fun i hi => by simpa using hall i hi)]; rfl

/-- Does a trip from a to b on day d meet the notice? -/
def meets (n : Notice) (a b d : Int) : Bool := inB d n.first n.last && decide (min a b ≤ n.stop) && decide (n.start ≤ max a b)
theorem l22Meets_spec {w : World} {n : Notice} {a b d : Int} : Calls Tryz.prog 41 #[.agg n.enc.toArray, .int .i64 a, .int .i64 b, .int .i64 d] w (RetB w (.bool (meets n a b d))) := by
  refine calls_of_run (vs := [_, _, _, _]) (L := [(0, _), (1, _), (2, _), (3, _)]) (n := 31) (F := []) (H := []) Tryz.func41 rfl rfl rfl rfl (HOk.start _) ?_
  refine Run.seq ?_
  refine Run.ops ?_
  refine SOps.one rfl (One.box (cs := [_, _, _, _, _, _, _]) rfl rfl rfl (fun b1 => ?_))
  refine SOps.st rfl rfl (Yv.assign rfl).yl ?_
  refine SOps.nil ?_
  refine Run.seq ?_
  refine Run.quiet (fun _ => ⟨by kernel_rfl, by kernel_rfl⟩) ?_
  refine QOps.st rfl rfl (Yv.move rfl).yl ?_
  refine QOps.st rfl rfl (Yv.fieldAddr fld25_4 rfl).yl ?_
  refine QOps.st rfl rfl (Yv.loadB (i := 0) lay3 rfl rfl rfl rfl).yl ?_
  refine QOps.st rfl rfl (Yv.fieldAddr fld25_5 rfl).yl ?_
  refine QOps.st rfl rfl (Yv.loadB (i := 0) lay3 rfl rfl rfl rfl).yl ?_
  refine QOps.st rfl rfl (Yl.call callable55 (.cons rfl (.cons rfl (.cons rfl (.nil)))) (fun w' hw' => l1In_spec)) ?_
  refine QOps.st rfl rfl (Yv.move rfl).yl ?_
  refine' QOps.and [_, _, _, _, _, _] _ (.tmp 21) rfl rfl rfl rfl rfl rfl (fun hg1 => ?_) ?_
  rotate_left
  · try replace hg1 := of_decide_eq_true hg1
    refine QOps.st rfl rfl (Yv.move rfl).yl ?_
    refine QOps.st rfl rfl (Yv.move rfl).yl ?_
    refine QOps.st rfl rfl (Yl.call callable49 (.cons rfl (.cons rfl (.nil))) (fun w' hw' => l1Least_spec)) ?_
    refine QOps.st rfl rfl (Yv.fieldAddr fld25_3 rfl).yl ?_
    refine QOps.st rfl rfl (Yv.loadB (i := 0) lay3 rfl rfl rfl rfl).yl ?_
    refine QOps.st rfl rfl (Yv.leq rfl rfl).yl ?_
    exact QOps.nil rfl
  refine QOps.st rfl rfl (Yv.move rfl).yl ?_
  refine' QOps.and [_, _, _, _, _, _] _ (.tmp 29) rfl rfl rfl rfl rfl rfl (fun hg2 => ?_) ?_
  rotate_left
  · try replace hg2 := of_decide_eq_true hg2
    refine QOps.st rfl rfl (Yv.fieldAddr fld25_2 rfl).yl ?_
    refine QOps.st rfl rfl (Yv.loadB (i := 0) lay3 rfl rfl rfl rfl).yl ?_
    refine QOps.st rfl rfl (Yv.move rfl).yl ?_
    refine QOps.st rfl rfl (Yv.move rfl).yl ?_
    refine QOps.st rfl rfl (Yl.call callable66 (.cons rfl (.cons rfl (.nil))) (fun w' hw' => l1Most_spec)) ?_
    refine QOps.st rfl rfl (Yv.leq rfl rfl).yl ?_
    exact QOps.nil rfl
  refine QOps.st rfl rfl (Yv.assign rfl).yl ?_
  refine QOps.nil ?_
  refine Run.ret ?_
  refine retQ.of (.inr rfl) rfl (.tmp rfl .nil) (fun w' hw' => ?_)
  refine ⟨?_, hw'.bel.below⟩
  exact rfl

theorem meets_spec {w : World} {n : Notice} {a b d : Int} (hw : n.start ≤ n.stop) : Calls Tryz.prog 39 #[.agg n.enc.toArray, .int .i64 a, .int .i64 b, .int .i64 d] w (RetB w (.bool (meets n a b d))) := by
  refine calls_of_run (vs := [_, _, _, _]) (L := [(0, _), (1, _), (2, _), (3, _)]) (n := 30) (F := []) (H := []) Tryz.func39 rfl rfl rfl rfl (HOk.start _) ?_
  refine Run.seq ?_
  refine Run.ops ?_
  refine SOps.one rfl (One.box (cs := [_, _, _, _, _, _, _]) rfl rfl rfl (fun b1 => ?_))
  refine SOps.st rfl rfl (Yv.assign rfl).yl ?_
  refine SOps.nil ?_
  refine Run.seq ?_
  refine Run.quiet (by intro h; cases h) ?_
  refine QOps.st rfl rfl (Yv.move rfl).yl ?_
  refine QOps.st rfl rfl (Yv.fieldAddr fld25_4 rfl).yl ?_
  refine QOps.st rfl rfl (Yv.loadB (i := 0) lay3 rfl rfl rfl rfl).yl ?_
  refine QOps.st rfl rfl (Yv.fieldAddr fld25_5 rfl).yl ?_
  refine QOps.st rfl rfl (Yv.loadB (i := 0) lay3 rfl rfl rfl rfl).yl ?_
  refine QOps.st rfl rfl (Yl.call callable50 (.cons rfl (.cons rfl (.cons rfl (.nil)))) (fun w' hw' => inside_spec)) ?_
  refine QOps.st rfl rfl (Yv.move rfl).yl ?_
  refine' QOps.and [_, _, _, _, _, _, _, _, _, _, _, _, _] _ (.tmp 28) rfl rfl rfl rfl rfl rfl (fun hg1 => ?_) ?_
  rotate_left
  · try replace hg1 := of_decide_eq_true hg1
    refine QOps.st rfl rfl (Yv.fieldAddr fld25_2 rfl).yl ?_
    refine QOps.st rfl rfl (Yv.loadB (i := 0) lay3 rfl rfl rfl rfl).yl ?_
    refine QOps.st rfl rfl (Yv.move rfl).yl ?_
    refine QOps.st rfl rfl (Yv.move rfl).yl ?_
    refine QOps.st rfl rfl (Yv.min2 rfl rfl).yl ?_
    refine QOps.st rfl rfl (Yv.max2 rfl rfl).yl ?_
    refine QOps.st rfl rfl (Yv.fieldAddr fld25_3 rfl).yl ?_
    refine QOps.st rfl rfl (Yv.loadB (i := 0) lay3 rfl rfl rfl rfl).yl ?_
    refine QOps.st rfl rfl (Yv.move rfl).yl ?_
    refine QOps.st rfl rfl (Yv.move rfl).yl ?_
    refine QOps.st rfl rfl (Yv.max2 rfl rfl).yl ?_
    refine QOps.st rfl rfl (Yv.min2 rfl rfl).yl ?_
    refine QOps.st rfl rfl (Yv.leq rfl rfl).yl ?_
    exact QOps.nil rfl
  refine QOps.st rfl rfl (Yv.assign rfl).yl ?_
  refine QOps.nil ?_
  refine Run.ret ?_
  refine retQ.of (.inr rfl) rfl (.tmp rfl .nil) (fun w' hw' => ?_)
  refine ⟨?_, hw'.bel.below⟩
  refine retB_eq ?_
  unfold meets
  rw [Bool.and_assoc]
  congr 1
  rw [← Bool.decide_and]
  exact decide_eq_decide.2 (by omega)
/-- A question that can be asked: notices, a way, a day. -/
def asked (ns : List Notice) (a b d : Int) : Bool := areNotices ns && inB a 0 600 && inB b 0 600 && inB d 0 365
theorem l22Asked_spec {w : World} {A : Option Addr} {c : Nat} {ns : List Notice} {a b d : Int} (hs : Sl w 7 A ns.length c (ns.flatMap Notice.enc)) : Calls Tryz.prog 40 #[.slice A ns.length c, .int .i64 a, .int .i64 b, .int .i64 d] w (RetB w (.bool (asked ns a b d))) := by
  refine calls_of_run (vs := [_, _, _, _]) (L := [(0, _), (1, _), (2, _), (3, _)]) (n := 23) (F := []) (H := []) Tryz.func40 rfl rfl rfl rfl (HOk.start _) ?_
  refine Run.seq ?_
  refine Run.quiet (by intro h; cases h) ?_
  refine QOps.st rfl rfl (Yv.assign rfl).yl ?_
  refine QOps.nil ?_
  refine Run.seq ?_
  refine Run.quiet (by intro h; cases h) ?_
  refine QOps.st rfl rfl (Yv.move rfl).yl ?_
  refine QOps.st rfl rfl (Yl.call callable45 (.cons rfl (.nil)) (fun w' hw' => l22Good_spec ((Rd.arg hs) w' hw'))) ?_
  refine QOps.st rfl rfl (Yv.move rfl).yl ?_
  refine' QOps.and [_, _] _ (.tmp 13) rfl rfl rfl rfl rfl rfl (fun hg1 => ?_) ?_
  rotate_left
  · try replace hg1 := of_decide_eq_true hg1
    refine QOps.st rfl rfl (Yv.move rfl).yl ?_
    refine QOps.st rfl rfl (Yl.call callable56 (.cons rfl (.nil)) (fun w' hw' => l17Place_spec)) ?_
    exact QOps.nil rfl
  refine QOps.st rfl rfl (Yv.move rfl).yl ?_
  refine' QOps.and [_, _] _ (.tmp 17) rfl rfl rfl rfl rfl rfl (fun hg2 => ?_) ?_
  rotate_left
  · try replace hg2 := of_decide_eq_true hg2
    refine QOps.st rfl rfl (Yv.move rfl).yl ?_
    refine QOps.st rfl rfl (Yl.call callable56 (.cons rfl (.nil)) (fun w' hw' => l17Place_spec)) ?_
    exact QOps.nil rfl
  refine QOps.st rfl rfl (Yv.move rfl).yl ?_
  refine' QOps.and [_, _] _ (.tmp 21) rfl rfl rfl rfl rfl rfl (fun hg3 => ?_) ?_
  rotate_left
  · try replace hg3 := of_decide_eq_true hg3
    refine QOps.st rfl rfl (Yv.move rfl).yl ?_
    refine QOps.st rfl rfl (Yl.call callable46 (.cons rfl (.nil)) (fun w' hw' => l22Day_spec)) ?_
    exact QOps.nil rfl
  refine QOps.st rfl rfl (Yv.assign rfl).yl ?_
  refine QOps.nil ?_
  refine Run.ret ?_
  refine retQ.of (.inr rfl) rfl (.tmp rfl .nil) (fun w' hw' => ?_)
  refine ⟨?_, hw'.bel.below⟩
  exact rfl

theorem isTrip_spec {w : World} {A : Option Addr} {c : Nat} {ns : List Notice} {a b d : Int} (hs : Sl w 7 A ns.length c (ns.flatMap Notice.enc)) : Calls Tryz.prog 38 #[.slice A ns.length c, .int .i64 a, .int .i64 b, .int .i64 d] w (RetB w (.bool (asked ns a b d))) := by
  refine calls_of_run (vs := [_, _, _, _]) (L := [(0, _), (1, _), (2, _), (3, _)]) (n := 23) (F := []) (H := []) Tryz.func38 rfl rfl rfl rfl (HOk.start _) ?_
  refine Run.seq ?_
  refine Run.quiet (by intro h; cases h) ?_
  refine QOps.st rfl rfl (Yv.assign rfl).yl ?_
  refine QOps.nil ?_
  refine Run.seq ?_
  refine Run.quiet (by intro h; cases h) ?_
  refine QOps.st rfl rfl (Yv.move rfl).yl ?_
  refine QOps.st rfl rfl (Yl.call callable16 (.cons rfl (.nil)) (fun w' hw' => AreNotices_spec ((Rd.arg hs) w' hw'))) ?_
  refine QOps.st rfl rfl (Yv.move rfl).yl ?_
  refine' QOps.and [_, _] _ (.tmp 13) rfl rfl rfl rfl rfl rfl (fun hg1 => ?_) ?_
  rotate_left
  · try replace hg1 := of_decide_eq_true hg1
    refine QOps.st rfl rfl (Yv.move rfl).yl ?_
    refine QOps.st rfl rfl (Yl.call callable51 (.cons rfl (.nil)) (fun w' hw' => isKilometer_spec)) ?_
    exact QOps.nil rfl
  refine QOps.st rfl rfl (Yv.move rfl).yl ?_
  refine' QOps.and [_, _] _ (.tmp 17) rfl rfl rfl rfl rfl rfl (fun hg2 => ?_) ?_
  rotate_left
  · try replace hg2 := of_decide_eq_true hg2
    refine QOps.st rfl rfl (Yv.move rfl).yl ?_
    refine QOps.st rfl rfl (Yl.call callable51 (.cons rfl (.nil)) (fun w' hw' => isKilometer_spec)) ?_
    exact QOps.nil rfl
  refine QOps.st rfl rfl (Yv.move rfl).yl ?_
  refine' QOps.and [_, _] _ (.tmp 21) rfl rfl rfl rfl rfl rfl (fun hg3 => ?_) ?_
  rotate_left
  · try replace hg3 := of_decide_eq_true hg3
    refine QOps.st rfl rfl (Yv.move rfl).yl ?_
    refine QOps.st rfl rfl (Yl.call callable52 (.cons rfl (.nil)) (fun w' hw' => isDay_spec)) ?_
    exact QOps.nil rfl
  refine QOps.st rfl rfl (Yv.assign rfl).yl ?_
  refine QOps.nil ?_
  refine Run.ret ?_
  refine retQ.of (.inr rfl) rfl (.tmp rfl .nil) (fun w' hw' => ?_)
  refine ⟨?_, hw'.bel.below⟩
  exact rfl

theorem asked_way {ns : List Notice} {a b d : Int} (h : asked ns a b d = true) : ∀ k, k < ns.length → (nth ns k).start ≤ (nth ns k).stop := by
  simp only [asked, Bool.and_eq_true] at h
  exact fun k hk => areNotices_way h.1.1.1 hk
/-- The numbers of those of the first k notices that a trip meets. -/
def metTo (ns : List Notice) (a b d : Int) : Nat → List Int
  | 0 => []
  | k + 1 => if meets (nth ns k) a b d = true then metTo ns a b d k ++ [(nth ns k).id] else metTo ns a b d k
theorem metTo_len {ns : List Notice} {a b d : Int} : ∀ {k : Nat}, (metTo ns a b d k).length ≤ k
  | 0 => by simp [metTo]
  | k + 1 => by
    have ih := metTo_len (ns := ns) (a := a) (b := b) (d := d) (k := k)
    rw [metTo]
    split
    · simp; omega
    · omega
def metOf (ns : List Notice) (a b d : Int) : List Int := if asked ns a b d = true then metTo ns a b d ns.length else []
theorem metOf_len {ns : List Notice} {a b d : Int} : (metOf ns a b d).length ≤ ns.length := by
  unfold metOf
  split
  · exact metTo_len
  · simp
theorem NoticesMet_spec {w : World} {A : Option Addr} {c : Nat} {ns : List Notice} {a b d : Int} (hs : Sl w 7 A ns.length c (ns.flatMap Notice.enc)) (hl : ns.length ≤ 1048576) : Calls Tryz.prog 12 #[.slice A ns.length c, .int .i64 a, .int .i64 b, .int .i64 d] w (RetRow w 3 1 (metOf ns a b d).length ((metOf ns a b d).flatMap intC) (fun v => .tuple #[v, .bool (asked ns a b d)])) := by
  refine calls_of_run (vs := [_, _, _, _]) (L := [(0, _), (1, _), (2, _), (3, _)]) (n := 38) (F := []) (H := []) Tryz.func12 rfl rfl rfl rfl (HOk.start _) ?_
  refine Run.seq ?_
  refine Run.quiet (by intro h; cases h) ?_
  refine QOps.st rfl rfl (Yv.assign rfl).yl ?_
  refine QOps.st rfl rfl (Yv.assign rfl).yl ?_
  refine QOps.nil ?_
  refine Run.seq ?_
  refine Run.seq ?_
  refine Run.quiet (by intro h; cases h) ?_
  refine QOps.st rfl rfl (Yv.move rfl).yl ?_
  refine QOps.st rfl rfl (Yv.move rfl).yl ?_
  refine QOps.st rfl rfl (Yv.move rfl).yl ?_
  refine QOps.st rfl rfl (Yv.move rfl).yl ?_
  refine QOps.st rfl rfl (Yl.call callable38 (.cons rfl (.cons rfl (.cons rfl (.cons rfl (.nil))))) (fun w' hw' => isTrip_spec ((Rd.arg hs) w' hw'))) ?_
  refine QOps.st rfl rfl (Yv.not rfl).yl ?_
  refine QOps.nil ?_
  refine Run.cond rfl (fun hc1 => ?_) (fun hc1 => ?_)
  · try replace hc1 := of_decide_eq_true hc1
    have hn : asked ns a b d = false := by simpa using hc1
    refine Run.seq ?_
    refine Run.quiet (by intro h; cases h) ?_
    refine QOps.st rfl rfl (Yv.assign rfl).yl ?_
    refine QOps.st rfl rfl (Yv.assign rfl).yl ?_
    refine QOps.nil ?_
    refine Run.ret ?_
    refine retQ.of (.inr rfl) rfl (.tmp rfl (.tmp rfl .nil)) (fun w' hw' => ?_)
    unfold metOf; rw [if_neg (by simp [hn]), hn]; exact ⟨_, _, rfl, hw'.bel.below, ⟨by first | rfl | simp, .inl ⟨rfl, rfl⟩⟩, by simp⟩
  · try replace hc1 := of_decide_eq_false hc1
    have hy : asked ns a b d = true := by simpa using hc1
    have hway := asked_way hy
    refine Run.skip ?_
    refine Run.seq ?_
    refine Run.ops ?_
    refine SOps.one rfl (One.buildSliceG (pv := []) (cs := []) (fun _ => []) rfl el35 .nil rfl rfl (by kernel_rfl) rfl rfl (fun b1 => ?_))
    refine SOps.st rfl rfl (Yv.assign rfl).yl ?_
    refine SOps.nil ?_
    refine Run.seq ?_
    refine Run.seq ?_
    refine Run.quiet (by intro h; cases h) ?_
    refine QOps.st rfl rfl (Yv.move rfl).yl ?_
    refine QOps.st rfl rfl (Yv.lenS el32s rfl).yl ?_
    refine QOps.st rfl rfl (Yv.move rfl).yl ?_
    refine QOps.nil ?_
    refine Run.block ?_
    refine Run.loop (S := Nat × List Int × Option Addr × Nat) (fun s => match s with | (k, o, A2, c2) => k ≤ ns.length ∧ o.length ≤ k ∧ o = metTo ns a b d k) (fun s => match s with | (k, o, A2, c2) => [(20, .slice A ns.length c), (21, .int .i64 (ns.length : Int)), (22, .int .i64 (k : Int)), (1, .int .i64 a), (2, .int .i64 b), (3, .int .i64 d), (10, .slice A2 o.length c2)]) (fun s => match s with | (k, o, A2, c2) => [.row A2 c2 3 1 o.length (o.flatMap intC)]) (fun s => match s with | (k, o, A2, c2) => ns.length - k) (0, [], some ⟨b1, 0, none⟩, 0) ?_ (SubE.cons rfl (SubE.cons rfl (SubE.cons rfl (SubE.cons rfl (SubE.cons rfl (SubE.cons rfl (SubE.cons rfl (SubE.nil _)))))))) (List.Sublist.refl _) ?_
    · exact ⟨by omega, by simp, rfl⟩
    · rintro ⟨k, o, A2, c2⟩ ⟨hk, hol, ho⟩
      show Run _ _ _ _ _ [(20, .slice A ns.length c), (21, .int .i64 (ns.length : Int)), (22, .int .i64 (k : Int)), (1, .int .i64 a), (2, .int .i64 b), (3, .int .i64 d), (10, .slice A2 o.length c2)] [.row A2 c2 3 1 o.length (o.flatMap intC)] _
      refine Run.seq ?_
      refine Run.quiet (by intro h; cases h) ?_
      refine QOps.st rfl rfl (Yv.lss rfl rfl).yl ?_
      refine QOps.nil ?_
      refine Run.seq ?_
      refine Run.cond rfl (fun hc2 => ?_) (fun hc2 => ?_)
      · try replace hc2 := of_decide_eq_true hc2
        refine Run.skip ?_
        refine Run.seq ?_
        refine Run.block ?_
        refine Run.seq ?_
        refine Run.ops ?_
        refine SOps.st rfl rfl (Yv.indexAddr k el32 rfl rfl rfl (Rd.arg hs) (by omega)).yl ?_
        refine SOps.st rfl rfl (Yv.loadEs lay25 rfl Notice.len (Rd.arg hs) (by first | omega | (simp; omega)) (by decide)).yl ?_
        refine SOps.one rfl (One.alloc rfl zero25 (fun b2 => ?_))
        refine SOps.one rfl (One.store (i := 0) (off := 0) (vs := [_, _, _, _, _, _, _]) (cs' := [_, _, _, _, _, _, _]) (H' := [_, _]) lay25 rfl rfl rfl rfl rfl rfl rfl rfl rfl rfl ?_)
        refine SOps.nil ?_
        refine Run.seq ?_
        refine Run.quiet (by intro h; cases h) ?_
        refine QOps.st rfl rfl (Yv.loadBs (i := 0) lay25 rfl rfl rfl rfl).yl ?_
        refine QOps.st rfl rfl (Yv.move rfl).yl ?_
        refine QOps.st rfl rfl (Yv.move rfl).yl ?_
        refine QOps.st rfl rfl (Yv.move rfl).yl ?_
        refine QOps.st rfl rfl (Yl.call callable39 (.cons rfl (.cons rfl (.cons rfl (.cons rfl (.nil))))) (fun w' hw' => meets_spec (by first | assumption | exact hway k (by omega)))) ?_
        refine QOps.nil ?_
        refine Run.cond rfl (fun hc3 => ?_) (fun hc3 => ?_)
        · try replace hc3 := of_decide_eq_true hc3
          refine Run.ops ?_
          refine SOps.st rfl rfl (Yv.move rfl).yl ?_
          refine SOps.st rfl rfl (Yv.fieldAddr fld25_0 rfl).yl ?_
          refine SOps.st rfl rfl (Yv.loadB (i := 0) lay3 rfl rfl rfl rfl).yl ?_
          refine SOps.one rfl (One.buildSliceG (pv := [(0, _)]) (cs := [_]) (fun l => match l with | [a0_0] => [a0_0] | _ => []) rfl el35 (.cons rfl (.nil)) rfl rfl (by kernel_rfl) rfl rfl (fun b3 => ?_))
          refine SOps.one rfl (One.append (enc := intC) (l := o) (l2 := [(nth ns k).id]) (m' := (o ++ [(nth ns k).id]).length) (i := 2) (H' := fun A c => [_, _, _]) rfl el35 zero3 rfl (by decide) rfl rfl rfl (Rd.row (i := 0) rfl) (fun _ => rfl) (by simp) (by simp; omega) (by simp; omega) (fun _ _ => rfl) (fun A1 c1 => ?_))
          refine SOps.st rfl rfl (Yv.assign rfl).yl ?_
          refine SOps.nil ?_
          refine Run.quiet (by intro h; cases h) ?_
          refine QOps.st rfl rfl (Yv.succN rfl rfl (by omega)).yl ?_
          refine QOps.st rfl rfl (Yv.move rfl).yl ?_
          refine QOps.nil ?_
          refine ⟨(k + 1, _, _, _), ?_, ?_, (SubE.cons rfl (SubE.cons rfl (SubE.cons rfl (SubE.cons rfl (SubE.cons rfl (SubE.cons rfl (SubE.cons rfl (SubE.nil _)))))))), (List.Sublist.cons _ (List.Sublist.cons _ (List.Sublist.refl _)))⟩
          · exact ⟨by omega, by simp; omega, by rw [metTo, if_pos hc3, ho]⟩
          · first | omega | (dsimp only; omega)
        · try replace hc3 := of_decide_eq_false hc3
          refine Run.skip ?_
          refine Run.quiet (by intro h; cases h) ?_
          refine QOps.st rfl rfl (Yv.succN rfl rfl (by omega)).yl ?_
          refine QOps.st rfl rfl (Yv.move rfl).yl ?_
          refine QOps.nil ?_
          refine ⟨(k + 1, o, A2, c2), ?_, ?_, (SubE.cons rfl (SubE.cons rfl (SubE.cons rfl (SubE.cons rfl (SubE.cons rfl (SubE.cons rfl (SubE.cons rfl (SubE.nil _)))))))), (List.Sublist.cons _ (List.Sublist.refl _))⟩
          · exact ⟨by omega, by omega, by rw [metTo, if_neg (by rw [hc3]; simp), ho]⟩
          · first | omega | (dsimp only; omega)
      · try replace hc2 := of_decide_eq_false hc2
        refine Run.exit ?_
        refine Run.seq ?_
        refine Run.quiet (by intro h; cases h) ?_
        refine QOps.st rfl rfl (Yv.move rfl).yl ?_
        refine QOps.st rfl rfl (Yv.assign rfl).yl ?_
        refine QOps.st rfl rfl (Yv.assign rfl).yl ?_
        refine QOps.nil ?_
        refine Run.ret ?_
        obtain rfl : k = ns.length := by omega
        subst ho
        refine retQ.of (.inr rfl) rfl (.tmp rfl (.tmp rfl .nil)) (fun w' hw' => ?_)
        unfold metOf; rw [if_pos hy, hy]; exact ⟨_, _, rfl, hw'.bel.below, hw'.ent _ (List.mem_of_getElem? (i := 0) rfl), fun g hg => (hw'.own _ (List.mem_of_getElem? (i := 0) rfl) g hg).elim id (by simp)⟩

theorem sNoticesMet_spec {w : World} {A : Option Addr} {c : Nat} {ns : List Notice} {a b d : Int} (hs : Sl w 7 A ns.length c (ns.flatMap Notice.enc)) (hl : ns.length ≤ 1048576) : Calls Tryz.prog 13 #[.slice A ns.length c, .int .i64 a, .int .i64 b, .int .i64 d] w (RetRow w 3 1 (metOf ns a b d).length ((metOf ns a b d).flatMap intC) (fun v => .tuple #[v, .bool (asked ns a b d)])) := by
  refine calls_of_run (vs := [_, _, _, _]) (L := [(0, _), (1, _), (2, _), (3, _)]) (n := 43) (F := []) (H := []) Tryz.func13 rfl rfl rfl rfl (HOk.start _) ?_
  refine Run.seq ?_
  refine Run.quiet (by intro h; cases h) ?_
  refine QOps.st rfl rfl (Yv.assign rfl).yl ?_
  refine QOps.st rfl rfl (Yv.assign rfl).yl ?_
  refine QOps.nil ?_
  refine Run.seq ?_
  refine Run.ops ?_
  refine SOps.one rfl (One.buildSliceG (pv := []) (cs := []) (fun _ => []) rfl el35 .nil rfl rfl (by kernel_rfl) rfl rfl (fun b1 => ?_))
  refine SOps.st rfl rfl (Yv.assign rfl).yl ?_
  refine SOps.nil ?_
  refine Run.seq ?_
  refine Run.seq ?_
  refine Run.quiet (by intro h; cases h) ?_
  refine QOps.st rfl rfl (Yv.move rfl).yl ?_
  refine QOps.st rfl rfl (Yv.move rfl).yl ?_
  refine QOps.st rfl rfl (Yv.move rfl).yl ?_
  refine QOps.st rfl rfl (Yv.move rfl).yl ?_
  refine QOps.st rfl rfl (Yl.call callable40 (.cons rfl (.cons rfl (.cons rfl (.cons rfl (.nil))))) (fun w' hw' => l22Asked_spec ((Rd.arg hs) w' hw'))) ?_
  refine QOps.st rfl rfl (Yv.not rfl).yl ?_
  refine QOps.nil ?_
  refine Run.cond rfl (fun hc1 => ?_) (fun hc1 => ?_)
  · try replace hc1 := of_decide_eq_true hc1
    have hn : asked ns a b d = false := by simpa using hc1
    refine Run.seq ?_
    refine Run.quiet (by intro h; cases h) ?_
    refine QOps.st rfl rfl (Yv.move rfl).yl ?_
    refine QOps.st rfl rfl (Yv.assign rfl).yl ?_
    refine QOps.st rfl rfl (Yv.assign rfl).yl ?_
    refine QOps.nil ?_
    refine Run.ret ?_
    refine retQ.of (.inr rfl) rfl (.tmp rfl (.tmp rfl .nil)) (fun w' hw' => ?_)
    unfold metOf; rw [if_neg (by simp [hn]), hn]; exact ⟨_, _, rfl, hw'.bel.below, hw'.ent _ (List.mem_of_getElem? (i := 0) rfl), fun g hg => (hw'.own _ (List.mem_of_getElem? (i := 0) rfl) g hg).elim id (by simp)⟩
  · try replace hc1 := of_decide_eq_false hc1
    have hy : asked ns a b d = true := by simpa using hc1
    have hway := asked_way hy
    refine Run.skip ?_
    refine Run.seq ?_
    refine Run.seq ?_
    refine Run.quiet (by intro h; cases h) ?_
    refine QOps.st rfl rfl (Yv.assign rfl).yl ?_
    refine QOps.nil ?_
    refine Run.block ?_
    refine Run.loop (S := Nat × List Int × Option Addr × Nat) (fun s => match s with | (k, o, A2, c2) => k ≤ ns.length ∧ o.length ≤ k ∧ o = metTo ns a b d k) (fun s => match s with | (k, o, A2, c2) => [(0, .slice A ns.length c), (11, .int .i64 (k : Int)), (1, .int .i64 a), (2, .int .i64 b), (3, .int .i64 d), (10, .slice A2 o.length c2)]) (fun s => match s with | (k, o, A2, c2) => [.row A2 c2 3 1 o.length (o.flatMap intC)]) (fun s => match s with | (k, o, A2, c2) => ns.length - k) (0, [], some ⟨b1, 0, none⟩, 0) ?_ (SubE.cons rfl (SubE.cons rfl (SubE.cons rfl (SubE.cons rfl (SubE.cons rfl (SubE.cons rfl (SubE.nil _))))))) (List.Sublist.refl _) ?_
    · exact ⟨by omega, by simp, rfl⟩
    · rintro ⟨k, o, A2, c2⟩ ⟨hk, hol, ho⟩
      show Run _ _ _ _ _ [(0, .slice A ns.length c), (11, .int .i64 (k : Int)), (1, .int .i64 a), (2, .int .i64 b), (3, .int .i64 d), (10, .slice A2 o.length c2)] [.row A2 c2 3 1 o.length (o.flatMap intC)] _
      refine Run.seq ?_
      refine Run.seq ?_
      refine Run.quiet (by intro h; cases h) ?_
      refine QOps.st rfl rfl (Yv.move rfl).yl ?_
      refine QOps.st rfl rfl (Yv.move rfl).yl ?_
      refine QOps.st rfl rfl (Yv.lenS el32s rfl).yl ?_
      refine QOps.st rfl rfl (Yv.lss rfl rfl).yl ?_
      refine QOps.nil ?_
      refine Run.cond rfl (fun hc2 => ?_) (fun hc2 => ?_)
      · try replace hc2 := of_decide_eq_true hc2
        refine Run.skip ?_
        refine Run.seq ?_
        refine Run.block ?_
        refine Run.seq ?_
        refine Run.quiet (by intro h; cases h) ?_
        refine QOps.st rfl rfl (Yv.move rfl).yl ?_
        refine QOps.st rfl rfl (Yv.move rfl).yl ?_
        refine QOps.st rfl rfl (Yv.indexAddr k el32 rfl rfl rfl (Rd.arg hs) (by omega)).yl ?_
        refine QOps.st rfl rfl (Yv.loadEs lay25 rfl Notice.len (Rd.arg hs) (by first | omega | (simp; omega)) (by decide)).yl ?_
        refine QOps.st rfl rfl (Yv.move rfl).yl ?_
        refine QOps.st rfl rfl (Yv.move rfl).yl ?_
        refine QOps.st rfl rfl (Yv.move rfl).yl ?_
        refine QOps.st rfl rfl (Yl.call callable41 (.cons rfl (.cons rfl (.cons rfl (.cons rfl (.nil))))) (fun w' hw' => l22Meets_spec)) ?_
        refine QOps.nil ?_
        refine Run.cond rfl (fun hc3 => ?_) (fun hc3 => ?_)
        · try replace hc3 := of_decide_eq_true hc3
          refine Run.ops ?_
          refine SOps.st rfl rfl (Yv.move rfl).yl ?_
          refine SOps.st rfl rfl (Yv.move rfl).yl ?_
          refine SOps.st rfl rfl (Yv.move rfl).yl ?_
          refine SOps.st rfl rfl (Yv.indexAddr k el32 rfl rfl rfl (Rd.arg hs) (by omega)).yl ?_
          refine SOps.st rfl rfl (Yv.fieldAddr fld25_0 rfl).yl ?_
          refine SOps.st rfl rfl (Yv.loadF lay3 rfl Notice.len (Rd.arg hs) (by first | omega | (simp; omega)) (by decide) rfl).yl ?_
          refine SOps.one rfl (One.buildSliceG (pv := [(0, _)]) (cs := [_]) (fun l => match l with | [a0_0] => [a0_0] | _ => []) rfl el35 (.cons rfl (.nil)) rfl rfl (by kernel_rfl) rfl rfl (fun b2 => ?_))
          refine SOps.one rfl (One.append (enc := intC) (l := o) (l2 := [(nth ns k).id]) (m' := (o ++ [(nth ns k).id]).length) (i := 1) (H' := fun A c => [_, _]) rfl el35 zero3 rfl (by decide) rfl rfl rfl (Rd.row (i := 0) rfl) (fun _ => rfl) (by simp) (by simp; omega) (by simp; omega) (fun _ _ => rfl) (fun A1 c1 => ?_))
          refine SOps.st rfl rfl (Yv.assign rfl).yl ?_
          refine SOps.nil ?_
          refine Run.quiet (by intro h; cases h) ?_
          refine QOps.st rfl rfl (Yv.move rfl).yl ?_
          refine QOps.st rfl rfl (Yv.succN rfl rfl (by omega)).yl ?_
          refine QOps.st rfl rfl (Yv.assign rfl).yl ?_
          refine QOps.nil ?_
          refine ⟨(k + 1, _, _, _), ?_, ?_, (SubE.cons rfl (SubE.cons rfl (SubE.cons rfl (SubE.cons rfl (SubE.cons rfl (SubE.cons rfl (SubE.nil _))))))), (List.Sublist.cons _ (List.Sublist.refl _))⟩
          · exact ⟨by omega, by simp; omega, by rw [metTo, if_pos hc3, ho]⟩
          · first | omega | (dsimp only; omega)
        · try replace hc3 := of_decide_eq_false hc3
          refine Run.skip ?_
          refine Run.quiet (by intro h; cases h) ?_
          refine QOps.st rfl rfl (Yv.move rfl).yl ?_
          refine QOps.st rfl rfl (Yv.succN rfl rfl (by omega)).yl ?_
          refine QOps.st rfl rfl (Yv.assign rfl).yl ?_
          refine QOps.nil ?_
          refine ⟨(k + 1, o, A2, c2), ?_, ?_, (SubE.cons rfl (SubE.cons rfl (SubE.cons rfl (SubE.cons rfl (SubE.cons rfl (SubE.cons rfl (SubE.nil _))))))), (List.Sublist.refl _)⟩
          · exact ⟨by omega, by omega, by rw [metTo, if_neg (by rw [hc3]; simp), ho]⟩
          · first | omega | (dsimp only; omega)
      · try replace hc2 := of_decide_eq_false hc2
        refine Run.exit ?_
        refine Run.seq ?_
        refine Run.quiet (by intro h; cases h) ?_
        refine QOps.st rfl rfl (Yv.move rfl).yl ?_
        refine QOps.st rfl rfl (Yv.assign rfl).yl ?_
        refine QOps.st rfl rfl (Yv.assign rfl).yl ?_
        refine QOps.nil ?_
        refine Run.ret ?_
        obtain rfl : k = ns.length := by omega
        subst ho
        refine retQ.of (.inr rfl) rfl (.tmp rfl (.tmp rfl .nil)) (fun w' hw' => ?_)
        unfold metOf; rw [if_pos hy, hy]; exact ⟨_, _, rfl, hw'.bel.below, hw'.ent _ (List.mem_of_getElem? (i := 0) rfl), fun g hg => (hw'.own _ (List.mem_of_getElem? (i := 0) rfl) g hg).elim id (by simp)⟩

theorem keep_succ {q : Notice → Bool} {l : List Notice} {j : Nat} (hj : j < l.length) : (l.take (j + 1)).filter q = (l.take j).filter q ++ (if q (nth l j) = true then [nth l j] else []) := by
  rw [List.take_add_one, nth_get hj, List.filter_append]
  congr 1
  by_cases h : q (nth l j) = true <;> simp [h]
theorem keep_all {q : Notice → Bool} {l : List Notice} : ∀ {i : Nat}, i ≤ l.length → (∀ x, x < i → q (nth l x) = true) → (l.take i).filter q = l.take i
  | 0, _, _ => by simp
  | i + 1, h, hq => by
    rw [keep_succ (by omega), keep_all (by omega) (fun x hx => hq x (by omega)), if_pos (hq i (by omega)), List.take_add_one, nth_get (show i < l.length by omega)]
    rfl
theorem set_take {o : List Notice} {i : Nat} {v : Notice} (h : i < o.length) : (o.set i v).take (i + 1) = o.take i ++ [v] := by
  rw [List.take_add_one, List.getElem?_set_self h]
  congr 1
  rw [List.take_set_of_le (Nat.le_refl _)]
theorem firstTo_spec {n j : Nat} {p : Nat → Bool} (h : firstTo n p = some j) : j < n ∧ p j = true ∧ ∀ i, i < j → p i = false := by
  by_cases hall : ∀ i, i < n → (!p i) = true
  · rw [firstTo_none (fun i hi => by simpa using hall i hi)] at h
    cases h
  · obtain ⟨k, hk, hp, hlt⟩ := exists_first hall
    rw [firstTo_some hk (by simpa using hp) (fun i hi => by simpa using hlt i hi)] at h
    cases h
    exact ⟨hk, by simpa using hp, fun i hi => by simpa using hlt i hi⟩
theorem firstTo_no {n : Nat} {p : Nat → Bool} (h : firstTo n p = none) : ∀ i, i < n → p i = false := fun i hi => by
  by_cases hp : p i = true
  · simp only [firstTo, List.find?_eq_none, List.mem_range] at h
    exact absurd hp (h i hi)
  · simpa using hp
theorem idxNotice_spec {w : World} {A : Option Addr} {c n : Nat} {l : List Notice} {f : FuncId} {cap : List Value} {p : Notice → Bool} (hs : Sl w 7 A n c (l.flatMap Notice.enc)) (hn : l.length = n) (hf : callable Tryz.prog f = true) (hcl : ∀ w', Below w.heap.size w w' → ∀ i, i < n → Calls Tryz.prog f (#[] ++ [.agg (Notice.enc (nth l i)).toArray].toArray ++ cap.toArray) w' (RetB w' (.bool (p (nth l i))))) :
    Calls Tryz.prog 67 #[.slice A n c, .func (.func f) #[] cap.toArray] w (RetB w (.int .i64 (match firstTo n (fun k => p (nth l k)) with | some k => (k : Int) | none => -1))) := by
  have hmx := Sl.lenle hs
  refine calls_of_run (vs := [_, _]) (L := [(0, _), (1, _)]) (n := 19) (F := []) (H := []) Tryz.func67 rfl rfl rfl rfl (HOk.start _) ?_
  refine Run.seq ?_
  refine Run.quiet (by intro h; cases h) ?_
  refine QOps.st rfl rfl (Yv.assign rfl).yl ?_
  refine QOps.nil ?_
  refine Run.seq ?_
  refine Run.seq ?_
  refine Run.quiet (by intro h; cases h) ?_
  refine QOps.st rfl rfl (Yv.move rfl).yl ?_
  refine QOps.st rfl rfl (Yv.lenS el32s rfl).yl ?_
  refine QOps.st rfl rfl (Yv.move rfl).yl ?_
  refine QOps.nil ?_
  refine Run.block ?_
  refine Run.loop (S := Nat) (fun s => match s with | k => k ≤ n ∧ ∀ i, i < k → p (nth l i) = false) (fun s => match s with | k => [(0, .slice A n c), (1, .func (.func f) #[] cap.toArray), (7, .int .i64 (n : Int)), (8, .int .i64 (k : Int))]) (fun s => match s with | k => []) (fun s => match s with | k => n - k) 0 ?_ (SubE.cons rfl (SubE.cons rfl (SubE.cons rfl (SubE.cons rfl (SubE.nil _))))) (List.Sublist.refl _) ?_
  · exact ⟨by omega, fun i hi => by omega⟩
  · rintro k ⟨hk, hall⟩
    show Run _ _ _ _ _ [(0, .slice A n c), (1, .func (.func f) #[] cap.toArray), (7, .int .i64 (n : Int)), (8, .int .i64 (k : Int))] [] _
    refine Run.seq ?_
    refine Run.quiet (by intro h; cases h) ?_
    refine QOps.st rfl rfl (Yv.lss rfl rfl).yl ?_
    refine QOps.nil ?_
    refine Run.seq ?_
    refine Run.cond rfl (fun hc1 => ?_) (fun hc1 => ?_)
    · try replace hc1 := of_decide_eq_true hc1
      refine Run.skip ?_
      refine Run.seq ?_
      refine Run.block ?_
      refine Run.seq ?_
      refine Run.quiet (by intro h; cases h) ?_
      refine QOps.st rfl rfl (Yv.move rfl).yl ?_
      refine QOps.st rfl rfl (Yv.assign rfl).yl ?_
      refine QOps.nil ?_
      refine Run.seq ?_
      refine Run.quiet (by intro h; cases h) ?_
      refine QOps.st rfl rfl (Yv.move rfl).yl ?_
      refine QOps.st rfl rfl (Yv.move rfl).yl ?_
      refine QOps.st rfl rfl (Yv.move rfl).yl ?_
      refine QOps.st rfl rfl (Yv.indexAddr k el32 rfl rfl rfl (Rd.arg hs) (by omega)).yl ?_
      refine QOps.st rfl rfl (Yv.loadEs lay25 rfl Notice.len (Rd.arg hs) (by first | omega | (simp; omega)) (by decide)).yl ?_
      refine QOps.st rfl rfl (Yl.callV rfl hf (.cons rfl (.nil)) (fun w' hw' => hcl w' hw'.bel.below k (by omega))) ?_
      refine QOps.nil ?_
      refine Run.cond rfl (fun hc2 => ?_) (fun hc2 => ?_)
      · try replace hc2 := of_decide_eq_true hc2
        refine Run.seq ?_
        refine Run.quiet (by intro h; cases h) ?_
        refine QOps.st rfl rfl (Yv.move rfl).yl ?_
        refine QOps.st rfl rfl (Yv.assign rfl).yl ?_
        refine QOps.nil ?_
        refine Run.ret ?_
        refine retQ.of (.inr rfl) rfl (.tmp rfl .nil) (fun w' hw' => ?_)
        refine ⟨?_, hw'.bel.below⟩
        refine retI_eq ?_
        rw [firstTo_some (k := k) (by omega) hc2 hall]
      · try replace hc2 := of_decide_eq_false hc2
        refine Run.skip ?_
        refine Run.quiet (by intro h; cases h) ?_
        refine QOps.st rfl rfl (Yv.succN rfl rfl (by omega)).yl ?_
        refine QOps.st rfl rfl (Yv.move rfl).yl ?_
        refine QOps.nil ?_
        refine ⟨k + 1, ?_, ?_, (SubE.cons rfl (SubE.cons rfl (SubE.cons rfl (SubE.cons rfl (SubE.nil _))))), (List.Sublist.refl _)⟩
        · exact ⟨by omega, all_succ hall hc2⟩
        · first | omega | (dsimp only; omega)
    · try replace hc1 := of_decide_eq_false hc1
      refine Run.exit ?_
      refine Run.seq ?_
      refine Run.quiet (by intro h; cases h) ?_
      refine QOps.st rfl rfl (Yv.assign rfl).yl ?_
      refine QOps.nil ?_
      refine Run.ret ?_
      refine retQ.of (.inr rfl) rfl (.tmp rfl .nil) (fun w' hw' => ?_)
      refine ⟨?_, hw'.bel.below⟩
      refine retI_eq ?_
      rw [firstTo_none (fun i hi => hall i (by omega))]

theorem delFn_spec {w : World} {A : Option Addr} {c m : Nat} {l : List Notice} {f : FuncId} {cap : List Value} {p : Notice → Bool} (hrow : (HEnt.row A c 25 7 m (l.flatMap Notice.enc)).ok w) (hl : l.length = m) (hf : callable Tryz.prog f = true) (hcl : ∀ w', Bel (A.map (·.block)).toList w w' → ∀ x : Notice, Calls Tryz.prog f (#[] ++ [.agg x.enc.toArray].toArray ++ cap.toArray) w' (RetB w' (.bool (p x)))) :
    Calls Tryz.prog 42 #[.slice A m c, .func (.func f) #[] cap.toArray] w (RetGrow w A 25 7 (l.filter (fun x => !p x)).length ((l.filter (fun x => !p x)).flatMap Notice.enc)) := by
  have hmc := (sl_of_row hrow).cap
  have hmx := Sl.lenle (sl_of_row hrow)
  refine calls_of_run (vs := [_, _]) (L := [(0, _), (1, _)]) (n := 42) (F := (A.map (·.block)).toList) (H := [_]) Tryz.func42 rfl rfl rfl rfl (HOk.borrowRow hrow) ?_
  refine Run.seq ?_
  refine Run.quiet (by intro h; cases h) ?_
  refine QOps.st rfl rfl (Yv.assign rfl).yl ?_
  refine QOps.nil ?_
  refine Run.seq ?_
  refine Run.quiet (by intro h; cases h) ?_
  refine QOps.st rfl rfl (Yv.move rfl).yl ?_
  refine QOps.st rfl rfl (Yv.move rfl).yl ?_
  refine QOps.st rfl rfl (Yl.call callable67 (.cons rfl (.cons rfl (.nil))) (fun w' hw' => idxNotice_spec (p := p) ((Rd.row (i := 0) rfl) w' hw') hl hf (fun w'' hb i hi => hcl w'' (hw'.up hb).bel _))) ?_
  refine QOps.st rfl rfl (Yv.assign rfl).yl ?_
  refine QOps.nil ?_
  refine Run.seq ?_
  refine Run.seq ?_
  refine Run.quiet (by intro h; cases h) ?_
  refine QOps.st rfl rfl (Yv.move rfl).yl ?_
  refine QOps.st rfl rfl (Yv.eqI rfl rfl).yl ?_
  refine QOps.nil ?_
  refine Run.cond rfl (fun hc1 => ?_) (fun hc1 => ?_)
  · try replace hc1 := of_decide_eq_true hc1
    have hfn : firstTo m (fun k => p (nth l k)) = none := by
          cases h : firstTo m (fun k => p (nth l k)) with
          | none => rfl
          | some i0 => rw [h] at hc1; dsimp only at hc1; omega
    refine Run.seq ?_
    refine Run.quiet (by intro h; cases h) ?_
    refine QOps.st rfl rfl (Yv.move rfl).yl ?_
    refine QOps.st rfl rfl (Yv.assign rfl).yl ?_
    refine QOps.nil ?_
    refine Run.ret ?_
    refine retQ.of (.inr rfl) rfl (.tmp rfl .nil) (fun w' hw' => ?_)
    have hn := firstTo_no hfn
    rw [List.filter_eq_self.2 (fun x hx => by obtain ⟨q, hq, rfl⟩ := List.getElem_of_mem hx; have := hn q (by omega); simpa [nth, hq] using this), hl]
    exact retGrow_same hw'.bel (hw'.ent _ (List.mem_of_getElem? (i := 0) rfl))
  · try replace hc1 := of_decide_eq_false hc1
    obtain ⟨i0, hfi⟩ : ∃ i0, firstTo m (fun k => p (nth l k)) = some i0 := by
          cases h : firstTo m (fun k => p (nth l k)) with
          | none => rw [h] at hc1; exact absurd rfl hc1
          | some i0 => exact ⟨i0, rfl⟩
    rw [hfi]
    dsimp only
    obtain ⟨hi1, hi2, hi3⟩ := firstTo_spec hfi
    refine Run.skip ?_
    refine Run.seq ?_
    refine Run.seq ?_
    refine Run.quiet (by intro h; cases h) ?_
    refine QOps.st rfl rfl (Yv.move rfl).yl ?_
    refine QOps.st rfl rfl (Yv.succN rfl rfl (by omega)).yl ?_
    refine QOps.st rfl rfl (Yv.assign rfl).yl ?_
    refine QOps.nil ?_
    refine Run.block ?_
    refine Run.loop (S := Nat × Nat × List Notice) (fun s => match s with | (i, j, o) => i ≤ j ∧ j ≤ m ∧ o.length = m ∧ o.take i = (l.take j).filter (fun x => !p x) ∧ ∀ x, j ≤ x → nth o x = nth l x) (fun s => match s with | (i, j, o) => [(0, .slice A m c), (1, .func (.func f) #[] cap.toArray), (5, .int .i64 (i : Int)), (6, .int .i64 (j : Int))]) (fun s => match s with | (i, j, o) => [.row A c 25 7 m (o.flatMap Notice.enc)]) (fun s => match s with | (i, j, o) => m - j) (i0, i0 + 1, l) ?_ (SubE.cons rfl (SubE.cons rfl (SubE.cons rfl (SubE.cons rfl (SubE.nil _))))) (List.Sublist.refl _) ?_
    · exact ⟨by omega, by omega, hl, by rw [keep_succ (by omega), if_neg (by simp [hi2]), List.append_nil, keep_all (by omega) (fun x hx => by simp [hi3 x hx])], fun x _ => rfl⟩
    · rintro ⟨i, j, o⟩ ⟨hij, hjm, hol, hot, hor⟩
      show Run _ _ _ _ _ [(0, .slice A m c), (1, .func (.func f) #[] cap.toArray), (5, .int .i64 (i : Int)), (6, .int .i64 (j : Int))] [.row A c 25 7 m (o.flatMap Notice.enc)] _
      refine Run.seq ?_
      refine Run.seq ?_
      refine Run.quiet (by intro h; cases h) ?_
      refine QOps.st rfl rfl (Yv.move rfl).yl ?_
      refine QOps.st rfl rfl (Yv.move rfl).yl ?_
      refine QOps.st rfl rfl (Yv.lenS el32s rfl).yl ?_
      refine QOps.st rfl rfl (Yv.lss rfl rfl).yl ?_
      refine QOps.nil ?_
      refine Run.cond rfl (fun hc2 => ?_) (fun hc2 => ?_)
      · try replace hc2 := of_decide_eq_true hc2
        refine Run.skip ?_
        refine Run.seq ?_
        refine Run.block ?_
        refine Run.seq ?_
        refine Run.ops ?_
        refine SOps.st rfl rfl (Yv.move rfl).yl ?_
        refine SOps.st rfl rfl (Yv.move rfl).yl ?_
        refine SOps.st rfl rfl (Yv.indexAddr j el32 rfl rfl rfl (Rd.row (i := 0) rfl) (by omega)).yl ?_
        refine SOps.st rfl rfl (Yv.loadEs lay25 rfl Notice.len (Rd.row (i := 0) rfl) (by first | omega | (simp; omega)) (by decide)).yl ?_
        refine SOps.one rfl (One.alloc rfl zero25 (fun b1 => ?_))
        refine SOps.one rfl (One.store (i := 0) (off := 0) (vs := [_, _, _, _, _, _, _]) (cs' := [_, _, _, _, _, _, _]) (H' := [_, _]) lay25 rfl rfl rfl rfl rfl rfl rfl rfl rfl rfl ?_)
        refine SOps.nil ?_
        refine Run.seq ?_
        refine Run.quiet (by intro h; cases h) ?_
        refine QOps.st rfl rfl (Yv.move rfl).yl ?_
        refine QOps.st rfl rfl (Yv.loadBs (i := 0) lay25 rfl rfl rfl rfl).yl ?_
        refine QOps.st rfl rfl (Yl.callV rfl hf (.cons rfl (.nil)) (fun w' hw' => hcl w' hw'.bel (nth o j))) ?_
        refine QOps.st rfl rfl (Yv.not rfl).yl ?_
        refine QOps.nil ?_
        refine Run.cond rfl (fun hc3 => ?_) (fun hc3 => ?_)
        · try replace hc3 := of_decide_eq_true hc3
          refine Run.seq ?_
          refine Run.ops ?_
          refine SOps.st rfl rfl (Yv.move rfl).yl ?_
          refine SOps.st rfl rfl (Yv.move rfl).yl ?_
          refine SOps.st rfl rfl (Yv.loadBs (i := 0) lay25 rfl rfl rfl rfl).yl ?_
          refine SOps.st rfl rfl (Yv.indexAddr i el32 rfl rfl rfl (Rd.row (i := 1) rfl) (by omega)).yl ?_
          refine SOps.one rfl (One.storeE (i := 1) (k := i) (f := 0) (H' := [_, _]) (e := nth o j) lay25 rfl rfl rfl Notice.len rfl (by decide) rfl rfl rfl hol (by omega) rfl ?_)
          refine SOps.nil ?_
          refine Run.quiet (by intro h; cases h) ?_
          refine QOps.st rfl rfl (Yv.move rfl).yl ?_
          refine QOps.st rfl rfl (Yv.succN rfl rfl (by omega)).yl ?_
          refine QOps.st rfl rfl (Yv.assign rfl).yl ?_
          refine QOps.nil ?_
          refine Run.quiet (by intro h; cases h) ?_
          refine QOps.st rfl rfl (Yv.move rfl).yl ?_
          refine QOps.st rfl rfl (Yv.succN rfl rfl (by omega)).yl ?_
          refine QOps.st rfl rfl (Yv.assign rfl).yl ?_
          refine QOps.nil ?_
          refine ⟨(i + 1, j + 1, _), ?_, ?_, (SubE.cons rfl (SubE.cons rfl (SubE.cons rfl (SubE.cons rfl (SubE.nil _))))), (List.Sublist.cons _ (List.Sublist.refl _))⟩
          · exact ⟨by omega, by omega, by simpa using hol, by rw [set_take (by omega), hot, keep_succ (by omega), hor j (Nat.le_refl _), if_pos (by have h9 := hor j (Nat.le_refl _); rw [h9] at hc3; simpa using hc3)], fun x hx => by rw [nth_set_ne (by omega)]; exact hor x (by omega)⟩
          · first | omega | (dsimp only; omega)
        · try replace hc3 := of_decide_eq_false hc3
          refine Run.skip ?_
          refine Run.quiet (by intro h; cases h) ?_
          refine QOps.st rfl rfl (Yv.move rfl).yl ?_
          refine QOps.st rfl rfl (Yv.succN rfl rfl (by omega)).yl ?_
          refine QOps.st rfl rfl (Yv.assign rfl).yl ?_
          refine QOps.nil ?_
          refine ⟨(i, j + 1, o), ?_, ?_, (SubE.cons rfl (SubE.cons rfl (SubE.cons rfl (SubE.cons rfl (SubE.nil _))))), (List.Sublist.cons _ (List.Sublist.refl _))⟩
          · exact ⟨by omega, by omega, hol, by rw [hot, keep_succ (by omega), if_neg (by have h9 := hor j (Nat.le_refl _); rw [h9] at hc3; simpa using hc3), List.append_nil], fun x hx => hor x (by omega)⟩
          · first | omega | (dsimp only; omega)
      · try replace hc2 := of_decide_eq_false hc2
        refine Run.exit ?_
        refine Run.seq ?_
        refine Run.ops ?_
        refine SOps.st rfl rfl (Yv.move rfl).yl ?_
        refine SOps.st rfl rfl (Yv.move rfl).yl ?_
        refine SOps.st rfl rfl (Yv.cutFrom i el32 rfl rfl rfl (by omega)).yl ?_
        refine SOps.one rfl (One.clear (enc := Notice.enc) (z := default) (l := o) (o := i) (i := 0) (H' := [_]) el32 zero25 rfl Notice.len rfl rfl (fun hk => cutA_at (by omega)) rfl (by omega) rfl ?_)
        refine SOps.nil ?_
        refine Run.seq ?_
        refine Run.quiet (by intro h; cases h) ?_
        refine QOps.st rfl rfl (Yv.move rfl).yl ?_
        refine QOps.st rfl rfl (Yv.move rfl).yl ?_
        refine QOps.st rfl rfl (Yv.cutTo0 i el32 rfl rfl rfl (by omega)).yl ?_
        refine QOps.st rfl rfl (Yv.assign rfl).yl ?_
        refine QOps.nil ?_
        refine Run.ret ?_
        refine retQ.of (.inr rfl) rfl (.tmp rfl .nil) (fun w' hw' => ?_)
        obtain rfl : j = m := by omega
        rw [show l.take j = l from List.take_of_length_le (by omega)] at hot
        have h3 := row_less' (m' := i) Notice.len (hw'.ent _ (List.mem_of_getElem? (i := 0) rfl)) (by omega)
        rw [List.append_assoc, List.take_left' (by simp; omega), hot] at h3
        rw [← hot, show (o.take i).length = i by simp; omega, hot]
        exact retGrow_same hw'.bel h3
def endedBy (day : Int) (n : Notice) : Bool := decide (n.last < day)
theorem EndedNotices1_spec {w : World} {n : Notice} {day : Int} {b : Nat} (h : Sl w 1 (some ⟨b, 0, none⟩) 1 1 ([day].flatMap intC)) :
    Calls Tryz.prog 43 #[.agg n.enc.toArray, .pointer (some ⟨b, 0, none⟩)] w (RetB w (.bool (endedBy day n))) := by
  refine calls_of_run (vs := [_, _]) (L := [(0, _), (1, _)]) (n := 8) (F := []) (H := []) Tryz.func43 rfl rfl rfl rfl (HOk.start _) ?_
  refine Run.seq ?_
  refine Run.ops ?_
  refine SOps.one rfl (One.box (cs := [_, _, _, _, _, _, _]) rfl rfl rfl (fun b1 => ?_))
  refine SOps.st rfl rfl (Yv.assign rfl).yl ?_
  refine SOps.nil ?_
  refine Run.seq ?_
  refine Run.quiet (by intro h; cases h) ?_
  refine QOps.st rfl rfl (Yv.fieldAddr fld25_5 rfl).yl ?_
  refine QOps.st rfl rfl (Yv.loadB (i := 0) lay3 rfl rfl rfl rfl).yl ?_
  refine QOps.st rfl rfl (Yv.loadE (k := 0) lay3 rfl intC_len (Rd.arg h) (by simp) rfl).yl ?_
  refine QOps.st rfl rfl (Yv.lss rfl rfl).yl ?_
  refine QOps.st rfl rfl (Yv.assign rfl).yl ?_
  refine QOps.nil ?_
  refine Run.ret ?_
  refine retQ.of (.inr rfl) rfl (.tmp rfl .nil) (fun w' hw' => ?_)
  refine ⟨?_, hw'.bel.below⟩
  exact rfl
def endOk (ns : List Notice) (day : Int) : Bool := areNotices ns && inB day 0 365
def endL (ns : List Notice) (day : Int) : List Notice := if endOk ns day = true then ns.filter (fun x => !endedBy day x) else []
theorem endL_len {ns : List Notice} {day : Int} : (endL ns day).length ≤ ns.length := by
  unfold endL
  split
  · exact List.length_filter_le _ _
  · simp
theorem EndedNotices_spec {w : World} {A : Option Addr} {c : Nat} {ns : List Notice} {day : Int} (hs : Sl w 7 A ns.length c (ns.flatMap Notice.enc)) (hl : ns.length ≤ 1048576) :
    Calls Tryz.prog 15 #[.slice A ns.length c, .int .i64 day] w (RetRow w 25 7 (endL ns day).length ((endL ns day).flatMap Notice.enc) (fun v => .tuple #[v, .bool (endOk ns day)])) := by
  refine calls_of_run (vs := [_, _]) (L := [(0, _), (1, _)]) (n := 15) (F := []) (H := []) Tryz.func15 rfl rfl rfl rfl (HOk.start _) ?_
  refine Run.seq ?_
  refine Run.ops ?_
  refine SOps.one rfl (One.box (cs := [_]) rfl rfl rfl (fun b1 => ?_))
  refine SOps.st rfl rfl (Yv.assign rfl).yl ?_
  refine SOps.st rfl rfl (Yv.assign rfl).yl ?_
  refine SOps.nil ?_
  refine Run.seq ?_
  refine Run.seq ?_
  refine Run.quiet (by intro h; cases h) ?_
  refine QOps.st rfl rfl (Yv.move rfl).yl ?_
  refine QOps.st rfl rfl (Yv.loadB (i := 0) lay3 rfl rfl rfl rfl).yl ?_
  refine QOps.st rfl rfl (Yl.call callable38 (.cons rfl (.cons rfl (.cons rfl (.cons rfl (.nil))))) (fun w' hw' => isTrip_spec ((Rd.arg hs) w' hw'))) ?_
  refine QOps.st rfl rfl (Yv.not rfl).yl ?_
  refine QOps.nil ?_
  refine Run.cond rfl (fun hc1 => ?_) (fun hc1 => ?_)
  · try replace hc1 := of_decide_eq_true hc1
    have hn : endOk ns day = false := by unfold endOk; revert hc1; unfold asked; cases areNotices ns <;> cases inB day 0 365 <;> simp [inB]
    refine Run.seq ?_
    refine Run.quiet (by intro h; cases h) ?_
    refine QOps.st rfl rfl (Yv.assign rfl).yl ?_
    refine QOps.st rfl rfl (Yv.assign rfl).yl ?_
    refine QOps.nil ?_
    refine Run.ret ?_
    refine retQ.of (.inr rfl) rfl (.tmp rfl (.tmp rfl .nil)) (fun w' hw' => ?_)
    unfold endL; rw [if_neg (by rw [hn]; simp), hn]; exact ⟨_, _, rfl, hw'.bel.below, ⟨by first | rfl | simp, .inl ⟨rfl, rfl⟩⟩, by simp⟩
  · try replace hc1 := of_decide_eq_false hc1
    have hy : endOk ns day = true := by unfold endOk; revert hc1; unfold asked; cases areNotices ns <;> cases inB day 0 365 <;> simp [inB]
    refine Run.skip ?_
    refine Run.seq ?_
    refine Run.ops ?_
    refine SOps.one rfl (One.buildSliceG (pv := []) (cs := []) (fun _ => []) rfl el32 .nil rfl rfl (by kernel_rfl) rfl rfl (fun b2 => ?_))
    refine SOps.st rfl rfl (Yv.move rfl).yl ?_
    refine SOps.one rfl (One.append (enc := Notice.enc) (l := ([] : List Notice)) (l2 := ns) (m' := ns.length) (i := 0) (H' := fun A c => [_, _]) rfl el32 zero25 rfl (by decide) rfl rfl rfl (Rd.arg hs) (fun _ => rfl) (by simp) (by omega) (by omega) (fun _ _ => rfl) (fun A1 c1 => ?_))
    refine SOps.st rfl rfl (Yv.makeFunc .nil (.cons rfl (.nil))).yl ?_
    refine SOps.one rfl (One.callGrow (i := 0) (H' := fun A c => [_, _]) rfl callable42 (.cons rfl (.cons rfl (.nil))) rfl (fun w' hw' => delFn_spec (p := endedBy day) (hw'.ent _ (List.mem_of_getElem? (i := 0) rfl)) rfl callable43 (fun w'' hb x => EndedNotices1_spec ((Rd.blkE intC_len (i := 1) (x := day) rfl w' hw').bel hb (by have h9 := HOk.apart hw' (i := 1) (j := 0) rfl rfl (by decide) rfl; intro h8; exact h9 (Option.mem_toList.1 h8))))) (fun _ _ => rfl) (fun A2 c2 => ?_))
    refine SOps.st rfl rfl (Yv.assign rfl).yl ?_
    refine SOps.st rfl rfl (Yv.assign rfl).yl ?_
    refine SOps.nil ?_
    refine Run.ret ?_
    refine retQ.of (.inr rfl) rfl (.tmp rfl (.tmp rfl .nil)) (fun w' hw' => ?_)
    unfold endL; rw [if_pos hy, hy]; exact ⟨_, _, rfl, hw'.bel.below, hw'.ent _ (List.mem_of_getElem? (i := 0) rfl), fun g hg => (hw'.own _ (List.mem_of_getElem? (i := 0) rfl) g hg).elim id (by simp)⟩
theorem sEndedNotices_spec {w : World} {A : Option Addr} {c : Nat} {ns : List Notice} {day : Int} (hs : Sl w 7 A ns.length c (ns.flatMap Notice.enc)) (hl : ns.length ≤ 1048576) :
    Calls Tryz.prog 18 #[.slice A ns.length c, .int .i64 day] w (RetRow w 25 7 (endL ns day).length ((endL ns day).flatMap Notice.enc) (fun v => .tuple #[v, .bool (endOk ns day)])) := by
  have hmx := Sl.lenle hs
  refine calls_of_run (vs := [_, _]) (L := [(0, _), (1, _)]) (n := 39) (F := []) (H := []) Tryz.func18 rfl rfl rfl rfl (HOk.start _) ?_
  refine Run.seq ?_
  refine Run.quiet (by intro h; cases h) ?_
  refine QOps.st rfl rfl (Yv.assign rfl).yl ?_
  refine QOps.st rfl rfl (Yv.assign rfl).yl ?_
  refine QOps.nil ?_
  refine Run.seq ?_
  refine Run.ops ?_
  refine SOps.one rfl (One.buildSliceG (pv := []) (cs := []) (fun _ => []) rfl el32 .nil rfl rfl (by kernel_rfl) rfl rfl (fun b1 => ?_))
  refine SOps.st rfl rfl (Yv.assign rfl).yl ?_
  refine SOps.nil ?_
  refine Run.seq ?_
  refine Run.seq ?_
  refine Run.quiet (by intro h; cases h) ?_
  refine QOps.st rfl rfl (Yv.move rfl).yl ?_
  refine QOps.st rfl rfl (Yl.call callable45 (.cons rfl (.nil)) (fun w' hw' => l22Good_spec ((Rd.arg hs) w' hw'))) ?_
  refine QOps.st rfl rfl (Yv.not rfl).yl ?_
  refine QOps.st rfl rfl (Yv.move rfl).yl ?_
  refine' QOps.or [_, _, _] _ (.tmp 15) rfl rfl rfl rfl rfl rfl (fun hg1 => ?_) ?_
  rotate_left
  · try replace hg1 := of_decide_eq_false hg1
    refine QOps.st rfl rfl (Yv.move rfl).yl ?_
    refine QOps.st rfl rfl (Yl.call callable46 (.cons rfl (.nil)) (fun w' hw' => l22Day_spec)) ?_
    refine QOps.st rfl rfl (Yv.not rfl).yl ?_
    exact QOps.nil rfl
  refine QOps.nil ?_
  refine Run.cond rfl (fun hc1 => ?_) (fun hc1 => ?_)
  · try replace hc1 := of_decide_eq_true hc1
    have hn : endOk ns day = false := by unfold endOk; revert hc1; cases areNotices ns <;> cases inB day 0 365 <;> simp
    refine Run.seq ?_
    refine Run.quiet (by intro h; cases h) ?_
    refine QOps.st rfl rfl (Yv.move rfl).yl ?_
    refine QOps.st rfl rfl (Yv.assign rfl).yl ?_
    refine QOps.st rfl rfl (Yv.assign rfl).yl ?_
    refine QOps.nil ?_
    refine Run.ret ?_
    refine retQ.of (.inr rfl) rfl (.tmp rfl (.tmp rfl .nil)) (fun w' hw' => ?_)
    unfold endL; rw [if_neg (by rw [hn]; simp), hn]; exact ⟨_, _, rfl, hw'.bel.below, hw'.ent _ (List.mem_of_getElem? (i := 0) rfl), fun g hg => (hw'.own _ (List.mem_of_getElem? (i := 0) rfl) g hg).elim id (by simp)⟩
  · try replace hc1 := of_decide_eq_false hc1
    have hy : endOk ns day = true := by unfold endOk; revert hc1; cases areNotices ns <;> cases inB day 0 365 <;> simp
    refine Run.skip ?_
    refine Run.seq ?_
    refine Run.seq ?_
    refine Run.quiet (by intro h; cases h) ?_
    refine QOps.st rfl rfl (Yv.assign rfl).yl ?_
    refine QOps.nil ?_
    refine Run.block ?_
    refine Run.loop (S := Nat × List Notice × Option Addr × Nat) (fun s => match s with | (k, o, A2, c2) => k ≤ ns.length ∧ o.length ≤ k ∧ o = (ns.take k).filter (fun x => !endedBy day x)) (fun s => match s with | (k, o, A2, c2) => [(0, .slice A ns.length c), (1, .int .i64 day), (6, .slice A2 o.length c2), (7, .int .i64 (k : Int))]) (fun s => match s with | (k, o, A2, c2) => [.row A2 c2 25 7 o.length (o.flatMap Notice.enc)]) (fun s => match s with | (k, o, A2, c2) => ns.length - k) (0, [], some ⟨b1, 0, none⟩, 0) ?_ (SubE.cons rfl (SubE.cons rfl (SubE.cons rfl (SubE.cons rfl (SubE.nil _))))) (List.Sublist.refl _) ?_
    · exact ⟨by omega, by simp, by simp⟩
    · rintro ⟨k, o, A2, c2⟩ ⟨hk, hol, ho⟩
      show Run _ _ _ _ _ [(0, .slice A ns.length c), (1, .int .i64 day), (6, .slice A2 o.length c2), (7, .int .i64 (k : Int))] [.row A2 c2 25 7 o.length (o.flatMap Notice.enc)] _
      refine Run.seq ?_
      refine Run.seq ?_
      refine Run.quiet (by intro h; cases h) ?_
      refine QOps.st rfl rfl (Yv.move rfl).yl ?_
      refine QOps.st rfl rfl (Yv.move rfl).yl ?_
      refine QOps.st rfl rfl (Yv.lenS el32s rfl).yl ?_
      refine QOps.st rfl rfl (Yv.lss rfl rfl).yl ?_
      refine QOps.nil ?_
      refine Run.cond rfl (fun hc2 => ?_) (fun hc2 => ?_)
      · try replace hc2 := of_decide_eq_true hc2
        refine Run.skip ?_
        refine Run.seq ?_
        refine Run.block ?_
        refine Run.seq ?_
        refine Run.quiet (by intro h; cases h) ?_
        refine QOps.st rfl rfl (Yv.move rfl).yl ?_
        refine QOps.st rfl rfl (Yv.move rfl).yl ?_
        refine QOps.st rfl rfl (Yv.indexAddr k el32 rfl rfl rfl (Rd.arg hs) (by omega)).yl ?_
        refine QOps.st rfl rfl (Yv.fieldAddr fld25_5 rfl).yl ?_
        refine QOps.st rfl rfl (Yv.loadF lay3 rfl Notice.len (Rd.arg hs) (by first | omega | (simp; omega)) (by decide) rfl).yl ?_
        refine QOps.st rfl rfl (Yv.move rfl).yl ?_
        refine QOps.st rfl rfl (Yv.geq rfl rfl).yl ?_
        refine QOps.nil ?_
        refine Run.cond rfl (fun hc3 => ?_) (fun hc3 => ?_)
        · try replace hc3 := of_decide_eq_true hc3
          refine Run.ops ?_
          refine SOps.st rfl rfl (Yv.move rfl).yl ?_
          refine SOps.st rfl rfl (Yv.move rfl).yl ?_
          refine SOps.st rfl rfl (Yv.move rfl).yl ?_
          refine SOps.st rfl rfl (Yv.indexAddr k el32 rfl rfl rfl (Rd.arg hs) (by omega)).yl ?_
          refine SOps.st rfl rfl (Yv.loadEs lay25 rfl Notice.len (Rd.arg hs) (by first | omega | (simp; omega)) (by decide)).yl ?_
          refine SOps.one rfl (One.buildSliceG (pv := [(0, _)]) (cs := [_, _, _, _, _, _, _]) (fun l => match l with | [.agg ⟨[a0_0, a0_1, a0_2, a0_3, a0_4, a0_5, a0_6]⟩] => [a0_0, a0_1, a0_2, a0_3, a0_4, a0_5, a0_6] | _ => []) rfl el32 (.cons rfl (.nil)) rfl rfl (by kernel_rfl) rfl rfl (fun b2 => ?_))
          refine SOps.one rfl (One.append (enc := Notice.enc) (l := o) (l2 := [nth ns k]) (m' := (o ++ [nth ns k]).length) (i := 1) (H' := fun A c => [_, _]) rfl el32 zero25 rfl (by decide) rfl rfl rfl (Rd.row (i := 0) rfl) (fun _ => rfl) (by simp) (by simp; omega) (by simp; omega) (fun _ _ => rfl) (fun A1 c1 => ?_))
          refine SOps.st rfl rfl (Yv.assign rfl).yl ?_
          refine SOps.nil ?_
          refine Run.quiet (by intro h; cases h) ?_
          refine QOps.st rfl rfl (Yv.move rfl).yl ?_
          refine QOps.st rfl rfl (Yv.succN rfl rfl (by omega)).yl ?_
          refine QOps.st rfl rfl (Yv.assign rfl).yl ?_
          refine QOps.nil ?_
          refine ⟨(k + 1, _, _, _), ?_, ?_, (SubE.cons rfl (SubE.cons rfl (SubE.cons rfl (SubE.cons rfl (SubE.nil _))))), (List.Sublist.cons _ (List.Sublist.refl _))⟩
          · exact ⟨by omega, by simp; omega, by rw [keep_succ (by omega), if_pos (by unfold endedBy; simpa using hc3), ← ho]⟩
          · first | omega | (dsimp only; omega)
        · try replace hc3 := of_decide_eq_false hc3
          refine Run.skip ?_
          refine Run.quiet (by intro h; cases h) ?_
          refine QOps.st rfl rfl (Yv.move rfl).yl ?_
          refine QOps.st rfl rfl (Yv.succN rfl rfl (by omega)).yl ?_
          refine QOps.st rfl rfl (Yv.assign rfl).yl ?_
          refine QOps.nil ?_
          refine ⟨(k + 1, o, A2, c2), ?_, ?_, (SubE.cons rfl (SubE.cons rfl (SubE.cons rfl (SubE.cons rfl (SubE.nil _))))), (List.Sublist.refl _)⟩
          · exact ⟨by omega, by omega, by rw [keep_succ (by omega), if_neg (by unfold endedBy; simpa using hc3), List.append_nil, ← ho]⟩
          · first | omega | (dsimp only; omega)
      · try replace hc2 := of_decide_eq_false hc2
        refine Run.exit ?_
        refine Run.seq ?_
        refine Run.quiet (by intro h; cases h) ?_
        refine QOps.st rfl rfl (Yv.move rfl).yl ?_
        refine QOps.st rfl rfl (Yv.assign rfl).yl ?_
        refine QOps.st rfl rfl (Yv.assign rfl).yl ?_
        refine QOps.nil ?_
        refine Run.ret ?_
        obtain rfl : k = ns.length := by omega
        rw [List.take_length] at ho
        subst ho
        refine retQ.of (.inr rfl) rfl (.tmp rfl (.tmp rfl .nil)) (fun w' hw' => ?_)
        unfold endL; rw [if_pos hy, hy]; exact ⟨_, _, rfl, hw'.bel.below, hw'.ent _ (List.mem_of_getElem? (i := 0) rfl), fun g hg => (hw'.own _ (List.mem_of_getElem? (i := 0) rfl) g hg).elim id (by simp)⟩
end Go.Proofs.YtjabeiolgghfdaaGreatDoor
