/- Notices: is a way open, the next open day. Conditions: none. -/
import Derived.Test.YtjabeiolgghfdaaNot4
namespace Go.Proofs.Ytjabeiolgghfdaa
open Go.RowKit
theorem allTo_succ {n : Nat} {p : Nat → Bool} : allTo (n + 1) p = (allTo n p && p n) := by simp [allTo, List.range_succ]
theorem least_one {ns : List Notice} {a b d : Int} (h0 : ∀ k, k < ns.length → (nth ns k).kind = 1 → (nth ns k).value = 0) : ∀ {k : Nat}, k ≤ ns.length → leastTo ns 1 a b d 1 k = if allTo k (fun i => !closes a b d (nth ns i)) = true then 1 else 0
  | 0, _ => by simp [leastTo, allTo]
  | k + 1, hk => by
    have ih := least_one h0 (a := a) (b := b) (d := d) (k := k) (by omega)
    rw [leastTo, allTo_succ, ih]
    by_cases hc : closes a b d (nth ns k) = true
    · rw [if_pos (show (decide ((nth ns k).kind = 1) && meets (nth ns k) a b d) = true from hc), h0 k (by omega) (by simp [closes] at hc; exact hc.1), hc]
      simp
      split <;> omega
    · rw [if_neg (show ¬ (decide ((nth ns k).kind = 1) && meets (nth ns k) a b d) = true from hc), Bool.eq_false_iff.2 hc]
      simp
theorem asked_zero {ns : List Notice} {a b d : Int} (h : asked ns a b d = true) : ∀ k, k < ns.length → (nth ns k).kind = 1 → (nth ns k).value = 0 := fun k hk h1 => by
  simp only [asked, areNotices, Bool.and_eq_true, allTo_iff] at h
  have h2 := h.1.1.1.1 k hk
  simp only [badNotice, Bool.not_eq_true', Bool.or_eq_false_iff, Bool.not_eq_false', noticeOk, nKind, Bool.and_eq_true] at h2
  have h3 := h2.1.2
  rw [if_pos h1] at h3
  exact of_decide_eq_true h3
theorem l22Open_spec {w : World} {A : Option Addr} {c : Nat} {ns : List Notice} {a b d : Int} (hs : Sl w 7 A ns.length c (ns.flatMap Notice.enc)) (hway : ∀ k, k < ns.length → (nth ns k).start ≤ (nth ns k).stop) (h0 : ∀ k, k < ns.length → (nth ns k).kind = 1 → (nth ns k).value = 0) :
    Calls Try.prog 56 #[.slice A ns.length c, .int .i64 a, .int .i64 b, .int .i64 d] w (RetB w (.bool (openDay ns a b d))) := by
  refine calls_of_run (vs := [_, _, _, _]) (L := [(0, _), (1, _), (2, _), (3, _)]) (n := 15) (F := []) (H := []) Try.func56 rfl rfl rfl rfl (HOk.start _) ?_
  refine Run.seq ?_
  refine Run.quiet (by intro h; cases h) ?_
  refine QOps.st rfl rfl (Yv.assign rfl).yl ?_
  refine QOps.nil ?_
  refine Run.seq ?_
  refine Run.quiet (by intro h; cases h) ?_
  refine QOps.st rfl rfl (Yv.move rfl).yl ?_
  refine QOps.st rfl rfl (Yv.move rfl).yl ?_
  refine QOps.st rfl rfl (Yv.move rfl).yl ?_
  refine QOps.st rfl rfl (Yv.move rfl).yl ?_
  refine QOps.st rfl rfl (Yl.call callable51 (.cons rfl (.cons rfl (.cons rfl (.cons rfl (.cons rfl (.cons rfl (.nil))))))) (fun w' hw' => l22Least_spec ((Rd.arg hs) w' hw') (by assumption))) ?_
  refine QOps.st rfl rfl (Yv.eqI rfl rfl).yl ?_
  refine QOps.st rfl rfl (Yv.assign rfl).yl ?_
  refine QOps.nil ?_
  refine Run.ret ?_
  refine retQ.of (.inr rfl) rfl (.tmp rfl .nil) (fun w' hw' => ?_)
  refine ⟨?_, hw'.bel.below⟩
  refine retB_eq ?_
  rw [least_one h0 (Nat.le_refl _)]
  unfold openDay
  split
  · rename_i h; rw [h]; rfl
  · rename_i h; rw [Bool.eq_false_iff.2 h]; rfl
def isOpenOf (ns : List Notice) (a b d : Int) : Bool × Bool := if asked ns a b d = true then (openDay ns a b d, true) else (false, false)
def nextOf (ns : List Notice) (a b d : Int) : Int × Bool := if asked ns a b d = true then (match firstTo (366 - d).toNat (fun i => openDay ns a b (d + (i : Int))) with | some i => (d + (i : Int), true) | none => (0, false)) else (0, false)
theorem IsOpen_spec {w : World} {A : Option Addr} {c : Nat} {ns : List Notice} {a b d : Int} (hs : Sl w 7 A ns.length c (ns.flatMap Notice.enc)) : Calls Try.prog 22 #[.slice A ns.length c, .int .i64 a, .int .i64 b, .int .i64 d] w (RetB w (.tuple #[.bool (isOpenOf ns a b d).1, .bool (isOpenOf ns a b d).2])) := by
  refine calls_of_run (vs := [_, _, _, _]) (L := [(0, _), (1, _), (2, _), (3, _)]) (n := 21) (F := []) (H := []) Try.func22 rfl rfl rfl rfl (HOk.start _) ?_
  refine Run.seq ?_
  refine Run.quiet (by intro h; cases h) ?_
  refine QOps.st rfl rfl (Yv.assign rfl).yl ?_
  refine QOps.st rfl rfl (Yv.assign rfl).yl ?_
  refine QOps.nil ?_
  refine Run.seq ?_
  refine Run.seq ?_
  refine Run.quiet (by intro h; cases h) ?_
  refine QOps.st rfl rfl (Yv.move rfl).yl ?_
  refine QOps.st rfl rfl (Yv.move rfl).yl ?_
  refine QOps.st rfl rfl (Yv.move rfl).yl ?_
  refine QOps.st rfl rfl (Yv.move rfl).yl ?_
  refine QOps.st rfl rfl (Yl.call callable52 (.cons rfl (.cons rfl (.cons rfl (.cons rfl (.nil))))) (fun w' hw' => isTrip_spec ((Rd.arg hs) w' hw'))) ?_
  refine QOps.st rfl rfl (Yv.not rfl).yl ?_
  refine QOps.nil ?_
  refine Run.cond rfl (fun hc1 => ?_) (fun hc1 => ?_)
  · try replace hc1 := of_decide_eq_true hc1
    have hn : ¬ asked ns a b d = true := by simpa using hc1
    refine Run.seq ?_
    refine Run.quiet (by intro h; cases h) ?_
    refine QOps.st rfl rfl (Yv.assign rfl).yl ?_
    refine QOps.st rfl rfl (Yv.assign rfl).yl ?_
    refine QOps.nil ?_
    refine Run.ret ?_
    refine retQ.of (.inr rfl) rfl (.tmp rfl (.tmp rfl .nil)) (fun w' hw' => ?_)
    refine ⟨?_, hw'.bel.below⟩
    unfold isOpenOf; rw [if_neg hn]; rfl
  · try replace hc1 := of_decide_eq_false hc1
    have hy : asked ns a b d = true := by simpa using hc1
    have hway := asked_way hy
    refine Run.skip ?_
    refine Run.seq ?_
    refine Run.quiet (by intro h; cases h) ?_
    refine QOps.st rfl rfl (Yv.move rfl).yl ?_
    refine QOps.st rfl rfl (Yv.move rfl).yl ?_
    refine QOps.st rfl rfl (Yv.move rfl).yl ?_
    refine QOps.st rfl rfl (Yv.move rfl).yl ?_
    refine QOps.st rfl rfl (Yl.call callable57 (.cons rfl (.cons rfl (.cons rfl (.cons rfl (.nil))))) (fun w' hw' => isOpen_spec ((Rd.arg hs) w' hw') (by assumption))) ?_
    refine QOps.st rfl rfl (Yv.assign rfl).yl ?_
    refine QOps.st rfl rfl (Yv.assign rfl).yl ?_
    refine QOps.nil ?_
    refine Run.ret ?_
    refine retQ.of (.inr rfl) rfl (.tmp rfl (.tmp rfl .nil)) (fun w' hw' => ?_)
    refine ⟨?_, hw'.bel.below⟩
    unfold isOpenOf; rw [if_pos hy]; rfl
theorem NextOpenDay_spec {w : World} {A : Option Addr} {c : Nat} {ns : List Notice} {a b d : Int} (hs : Sl w 7 A ns.length c (ns.flatMap Notice.enc)) : Calls Try.prog 24 #[.slice A ns.length c, .int .i64 a, .int .i64 b, .int .i64 d] w (RetB w (.tuple #[.int .i64 (nextOf ns a b d).1, .bool (nextOf ns a b d).2])) := by
  refine calls_of_run (vs := [_, _, _, _]) (L := [(0, _), (1, _), (2, _), (3, _)]) (n := 26) (F := []) (H := []) Try.func24 rfl rfl rfl rfl (HOk.start _) ?_
  refine Run.seq ?_
  refine Run.quiet (by intro h; cases h) ?_
  refine QOps.st rfl rfl (Yv.assign rfl).yl ?_
  refine QOps.st rfl rfl (Yv.assign rfl).yl ?_
  refine QOps.nil ?_
  refine Run.seq ?_
  refine Run.seq ?_
  refine Run.quiet (by intro h; cases h) ?_
  refine QOps.st rfl rfl (Yv.move rfl).yl ?_
  refine QOps.st rfl rfl (Yv.move rfl).yl ?_
  refine QOps.st rfl rfl (Yv.move rfl).yl ?_
  refine QOps.st rfl rfl (Yv.move rfl).yl ?_
  refine QOps.st rfl rfl (Yl.call callable52 (.cons rfl (.cons rfl (.cons rfl (.cons rfl (.nil))))) (fun w' hw' => isTrip_spec ((Rd.arg hs) w' hw'))) ?_
  refine QOps.st rfl rfl (Yv.not rfl).yl ?_
  refine QOps.nil ?_
  refine Run.cond rfl (fun hc1 => ?_) (fun hc1 => ?_)
  · try replace hc1 := of_decide_eq_true hc1
    have hn : ¬ asked ns a b d = true := by simpa using hc1
    refine Run.seq ?_
    refine Run.quiet (by intro h; cases h) ?_
    refine QOps.st rfl rfl (Yv.assign rfl).yl ?_
    refine QOps.st rfl rfl (Yv.assign rfl).yl ?_
    refine QOps.nil ?_
    refine Run.ret ?_
    refine retQ.of (.inr rfl) rfl (.tmp rfl (.tmp rfl .nil)) (fun w' hw' => ?_)
    refine ⟨?_, hw'.bel.below⟩
    unfold nextOf; rw [if_neg hn]; rfl
  · try replace hc1 := of_decide_eq_false hc1
    have hy : asked ns a b d = true := by simpa using hc1
    have hway := asked_way hy
    have hd : 0 ≤ d ∧ d ≤ 365 := by simp only [asked, Bool.and_eq_true, inB_iff] at hy; exact hy.2
    refine Run.skip ?_
    refine Run.seq ?_
    refine Run.block ?_
    refine Run.loop (S := Nat) (fun s => match s with | k => d + (k : Int) ≤ 366 ∧ ∀ i, i < k → openDay ns a b (d + (i : Int)) = false) (fun s => match s with | k => [(0, .slice A ns.length c), (1, .int .i64 a), (2, .int .i64 b), (3, .int .i64 (d + (k : Int)))]) (fun s => match s with | k => []) (fun s => match s with | k => (366 - (d + (k : Int))).toNat) 0 ?_ (SubE.cons rfl (SubE.cons rfl (SubE.cons rfl (SubE.cons (congrArg some (by simp)) (SubE.nil _))))) (List.Sublist.refl _) ?_
    · exact ⟨by omega, fun i hi => by omega⟩
    · rintro k ⟨hk, hall⟩
      show Run _ _ _ _ _ [(0, .slice A ns.length c), (1, .int .i64 a), (2, .int .i64 b), (3, .int .i64 (d + (k : Int)))] [] _
      refine Run.seq ?_
      refine Run.seq ?_
      refine Run.quiet (by intro h; cases h) ?_
      refine QOps.st rfl rfl (Yv.move rfl).yl ?_
      refine QOps.st rfl rfl (Yl.call callable58 (.cons rfl (.nil)) (fun w' hw' => isDay_spec)) ?_
      refine QOps.nil ?_
      refine Run.cond rfl (fun hc2 => ?_) (fun hc2 => ?_)
      · try replace hc2 := of_decide_eq_true hc2
        refine Run.skip ?_
        refine Run.seq ?_
        refine Run.block ?_
        refine Run.seq ?_
        refine Run.quiet (by intro h; cases h) ?_
        refine QOps.st rfl rfl (Yv.move rfl).yl ?_
        refine QOps.st rfl rfl (Yv.move rfl).yl ?_
        refine QOps.st rfl rfl (Yv.move rfl).yl ?_
        refine QOps.st rfl rfl (Yv.move rfl).yl ?_
        refine QOps.st rfl rfl (Yl.call callable57 (.cons rfl (.cons rfl (.cons rfl (.cons rfl (.nil))))) (fun w' hw' => isOpen_spec ((Rd.arg hs) w' hw') (by assumption))) ?_
        refine QOps.nil ?_
        refine Run.cond rfl (fun hc3 => ?_) (fun hc3 => ?_)
        · try replace hc3 := of_decide_eq_true hc3
          refine Run.seq ?_
          refine Run.quiet (by intro h; cases h) ?_
          refine QOps.st rfl rfl (Yv.move rfl).yl ?_
          refine QOps.st rfl rfl (Yv.assign rfl).yl ?_
          refine QOps.st rfl rfl (Yv.assign rfl).yl ?_
          refine QOps.nil ?_
          refine Run.ret ?_
          refine retQ.of (.inr rfl) rfl (.tmp rfl (.tmp rfl .nil)) (fun w' hw' => ?_)
          refine ⟨?_, hw'.bel.below⟩
          unfold nextOf; rw [if_pos hy, firstTo_some (k := k) (by have := inB_iff.1 hc2; omega) hc3 hall]; rfl
        · try replace hc3 := of_decide_eq_false hc3
          refine Run.skip ?_
          refine Run.quiet (by intro h; cases h) ?_
          refine QOps.st rfl rfl (Yv.move rfl).yl ?_
          refine QOps.st rfl rfl (Yv.add rfl rfl (by omega)).yl ?_
          refine QOps.st rfl rfl (Yv.assign rfl).yl ?_
          refine QOps.nil ?_
          refine ⟨k + 1, ?_, ?_, (SubE.cons rfl (SubE.cons rfl (SubE.cons rfl (SubE.cons (congrArg some (by push_cast; rw [Int.add_assoc])) (SubE.nil _))))), (List.Sublist.refl _)⟩
          · exact ⟨by have := inB_iff.1 hc2; omega, all_succ hall hc3⟩
          · (have := inB_iff.1 hc2; dsimp only; omega)
      · try replace hc2 := of_decide_eq_false hc2
        refine Run.exit ?_
        refine Run.seq ?_
        refine Run.quiet (by intro h; cases h) ?_
        refine QOps.st rfl rfl (Yv.assign rfl).yl ?_
        refine QOps.st rfl rfl (Yv.assign rfl).yl ?_
        refine QOps.nil ?_
        refine Run.ret ?_
        refine retQ.of (.inr rfl) rfl (.tmp rfl (.tmp rfl .nil)) (fun w' hw' => ?_)
        refine ⟨?_, hw'.bel.below⟩
        unfold nextOf; rw [if_pos hy, firstTo_none (fun i hi => hall i (by have := inB_false.1 hc2; omega))]; rfl

theorem sIsOpen_spec {w : World} {A : Option Addr} {c : Nat} {ns : List Notice} {a b d : Int} (hs : Sl w 7 A ns.length c (ns.flatMap Notice.enc)) : Calls Try.prog 21 #[.slice A ns.length c, .int .i64 a, .int .i64 b, .int .i64 d] w (RetB w (.tuple #[.bool (isOpenOf ns a b d).1, .bool (isOpenOf ns a b d).2])) := by
  refine calls_of_run (vs := [_, _, _, _]) (L := [(0, _), (1, _), (2, _), (3, _)]) (n := 21) (F := []) (H := []) Try.func21 rfl rfl rfl rfl (HOk.start _) ?_
  refine Run.seq ?_
  refine Run.quiet (by intro h; cases h) ?_
  refine QOps.st rfl rfl (Yv.assign rfl).yl ?_
  refine QOps.st rfl rfl (Yv.assign rfl).yl ?_
  refine QOps.nil ?_
  refine Run.seq ?_
  refine Run.seq ?_
  refine Run.quiet (by intro h; cases h) ?_
  refine QOps.st rfl rfl (Yv.move rfl).yl ?_
  refine QOps.st rfl rfl (Yv.move rfl).yl ?_
  refine QOps.st rfl rfl (Yv.move rfl).yl ?_
  refine QOps.st rfl rfl (Yv.move rfl).yl ?_
  refine QOps.st rfl rfl (Yl.call callable49 (.cons rfl (.cons rfl (.cons rfl (.cons rfl (.nil))))) (fun w' hw' => l22Asked_spec ((Rd.arg hs) w' hw'))) ?_
  refine QOps.st rfl rfl (Yv.not rfl).yl ?_
  refine QOps.nil ?_
  refine Run.cond rfl (fun hc1 => ?_) (fun hc1 => ?_)
  · try replace hc1 := of_decide_eq_true hc1
    have hn : ¬ asked ns a b d = true := by simpa using hc1
    refine Run.seq ?_
    refine Run.quiet (by intro h; cases h) ?_
    refine QOps.st rfl rfl (Yv.assign rfl).yl ?_
    refine QOps.st rfl rfl (Yv.assign rfl).yl ?_
    refine QOps.nil ?_
    refine Run.ret ?_
    refine retQ.of (.inr rfl) rfl (.tmp rfl (.tmp rfl .nil)) (fun w' hw' => ?_)
    refine ⟨?_, hw'.bel.below⟩
    unfold isOpenOf; rw [if_neg hn]; rfl
  · try replace hc1 := of_decide_eq_false hc1
    have hy : asked ns a b d = true := by simpa using hc1
    have hway := asked_way hy
    have h0 := asked_zero hy
    refine Run.skip ?_
    refine Run.seq ?_
    refine Run.quiet (by intro h; cases h) ?_
    refine QOps.st rfl rfl (Yv.move rfl).yl ?_
    refine QOps.st rfl rfl (Yv.move rfl).yl ?_
    refine QOps.st rfl rfl (Yv.move rfl).yl ?_
    refine QOps.st rfl rfl (Yv.move rfl).yl ?_
    refine QOps.st rfl rfl (Yl.call callable56 (.cons rfl (.cons rfl (.cons rfl (.cons rfl (.nil))))) (fun w' hw' => l22Open_spec ((Rd.arg hs) w' hw') (by assumption) (by assumption))) ?_
    refine QOps.st rfl rfl (Yv.assign rfl).yl ?_
    refine QOps.st rfl rfl (Yv.assign rfl).yl ?_
    refine QOps.nil ?_
    refine Run.ret ?_
    refine retQ.of (.inr rfl) rfl (.tmp rfl (.tmp rfl .nil)) (fun w' hw' => ?_)
    refine ⟨?_, hw'.bel.below⟩
    unfold isOpenOf; rw [if_pos hy]; rfl
theorem sNextOpenDay_spec {w : World} {A : Option Addr} {c : Nat} {ns : List Notice} {a b d : Int} (hs : Sl w 7 A ns.length c (ns.flatMap Notice.enc)) : Calls Try.prog 23 #[.slice A ns.length c, .int .i64 a, .int .i64 b, .int .i64 d] w (RetB w (.tuple #[.int .i64 (nextOf ns a b d).1, .bool (nextOf ns a b d).2])) := by
  refine calls_of_run (vs := [_, _, _, _]) (L := [(0, _), (1, _), (2, _), (3, _)]) (n := 26) (F := []) (H := []) Try.func23 rfl rfl rfl rfl (HOk.start _) ?_
  refine Run.seq ?_
  refine Run.quiet (by intro h; cases h) ?_
  refine QOps.st rfl rfl (Yv.assign rfl).yl ?_
  refine QOps.st rfl rfl (Yv.assign rfl).yl ?_
  refine QOps.nil ?_
  refine Run.seq ?_
  refine Run.seq ?_
  refine Run.quiet (by intro h; cases h) ?_
  refine QOps.st rfl rfl (Yv.move rfl).yl ?_
  refine QOps.st rfl rfl (Yv.move rfl).yl ?_
  refine QOps.st rfl rfl (Yv.move rfl).yl ?_
  refine QOps.st rfl rfl (Yv.move rfl).yl ?_
  refine QOps.st rfl rfl (Yl.call callable49 (.cons rfl (.cons rfl (.cons rfl (.cons rfl (.nil))))) (fun w' hw' => l22Asked_spec ((Rd.arg hs) w' hw'))) ?_
  refine QOps.st rfl rfl (Yv.not rfl).yl ?_
  refine QOps.nil ?_
  refine Run.cond rfl (fun hc1 => ?_) (fun hc1 => ?_)
  · try replace hc1 := of_decide_eq_true hc1
    have hn : ¬ asked ns a b d = true := by simpa using hc1
    refine Run.seq ?_
    refine Run.quiet (by intro h; cases h) ?_
    refine QOps.st rfl rfl (Yv.assign rfl).yl ?_
    refine QOps.st rfl rfl (Yv.assign rfl).yl ?_
    refine QOps.nil ?_
    refine Run.ret ?_
    refine retQ.of (.inr rfl) rfl (.tmp rfl (.tmp rfl .nil)) (fun w' hw' => ?_)
    refine ⟨?_, hw'.bel.below⟩
    unfold nextOf; rw [if_neg hn]; rfl
  · try replace hc1 := of_decide_eq_false hc1
    have hy : asked ns a b d = true := by simpa using hc1
    have hway := asked_way hy
    have h0 := asked_zero hy
    have hd : 0 ≤ d ∧ d ≤ 365 := by simp only [asked, Bool.and_eq_true, inB_iff] at hy; exact hy.2
    refine Run.skip ?_
    refine Run.seq ?_
    refine Run.block ?_
    refine Run.loop (S := Nat) (fun s => match s with | k => d + (k : Int) ≤ 366 ∧ ∀ i, i < k → openDay ns a b (d + (i : Int)) = false) (fun s => match s with | k => [(0, .slice A ns.length c), (1, .int .i64 a), (2, .int .i64 b), (3, .int .i64 (d + (k : Int)))]) (fun s => match s with | k => []) (fun s => match s with | k => (366 - (d + (k : Int))).toNat) 0 ?_ (SubE.cons rfl (SubE.cons rfl (SubE.cons rfl (SubE.cons (congrArg some (by simp)) (SubE.nil _))))) (List.Sublist.refl _) ?_
    · exact ⟨by omega, fun i hi => by omega⟩
    · rintro k ⟨hk, hall⟩
      show Run _ _ _ _ _ [(0, .slice A ns.length c), (1, .int .i64 a), (2, .int .i64 b), (3, .int .i64 (d + (k : Int)))] [] _
      refine Run.seq ?_
      refine Run.seq ?_
      refine Run.quiet (by intro h; cases h) ?_
      refine QOps.st rfl rfl (Yv.move rfl).yl ?_
      refine QOps.st rfl rfl (Yv.leq rfl rfl).yl ?_
      refine QOps.nil ?_
      refine Run.cond rfl (fun hc2 => ?_) (fun hc2 => ?_)
      · try replace hc2 := of_decide_eq_true hc2
        refine Run.skip ?_
        refine Run.seq ?_
        refine Run.block ?_
        refine Run.seq ?_
        refine Run.quiet (by intro h; cases h) ?_
        refine QOps.st rfl rfl (Yv.move rfl).yl ?_
        refine QOps.st rfl rfl (Yv.move rfl).yl ?_
        refine QOps.st rfl rfl (Yv.move rfl).yl ?_
        refine QOps.st rfl rfl (Yv.move rfl).yl ?_
        refine QOps.st rfl rfl (Yl.call callable56 (.cons rfl (.cons rfl (.cons rfl (.cons rfl (.nil))))) (fun w' hw' => l22Open_spec ((Rd.arg hs) w' hw') (by assumption) (by assumption))) ?_
        refine QOps.nil ?_
        refine Run.cond rfl (fun hc3 => ?_) (fun hc3 => ?_)
        · try replace hc3 := of_decide_eq_true hc3
          refine Run.seq ?_
          refine Run.quiet (by intro h; cases h) ?_
          refine QOps.st rfl rfl (Yv.move rfl).yl ?_
          refine QOps.st rfl rfl (Yv.assign rfl).yl ?_
          refine QOps.st rfl rfl (Yv.assign rfl).yl ?_
          refine QOps.nil ?_
          refine Run.ret ?_
          refine retQ.of (.inr rfl) rfl (.tmp rfl (.tmp rfl .nil)) (fun w' hw' => ?_)
          refine ⟨?_, hw'.bel.below⟩
          unfold nextOf; rw [if_pos hy, firstTo_some (k := k) (by omega) hc3 hall]; rfl
        · try replace hc3 := of_decide_eq_false hc3
          refine Run.skip ?_
          refine Run.quiet (by intro h; cases h) ?_
          refine QOps.st rfl rfl (Yv.move rfl).yl ?_
          refine QOps.st rfl rfl (Yv.add rfl rfl (by omega)).yl ?_
          refine QOps.st rfl rfl (Yv.assign rfl).yl ?_
          refine QOps.nil ?_
          refine ⟨k + 1, ?_, ?_, (SubE.cons rfl (SubE.cons rfl (SubE.cons rfl (SubE.cons (congrArg some (by push_cast; rw [Int.add_assoc])) (SubE.nil _))))), (List.Sublist.refl _)⟩
          · exact ⟨by omega, all_succ hall hc3⟩
          · (dsimp only; omega)
      · try replace hc2 := of_decide_eq_false hc2
        refine Run.exit ?_
        refine Run.seq ?_
        refine Run.quiet (by intro h; cases h) ?_
        refine QOps.st rfl rfl (Yv.assign rfl).yl ?_
        refine QOps.st rfl rfl (Yv.assign rfl).yl ?_
        refine QOps.nil ?_
        refine Run.ret ?_
        refine retQ.of (.inr rfl) rfl (.tmp rfl (.tmp rfl .nil)) (fun w' hw' => ?_)
        refine ⟨?_, hw'.bel.below⟩
        unfold nextOf; rw [if_pos hy, firstTo_none (fun i hi => hall i (by omega))]; rfl

theorem FnExactIsOpen_spec {w : World} {A : Option Addr} {c : Nat} {ns : List Notice} {a b d : Int} (hs : Sl w 7 A ns.length c (ns.flatMap Notice.enc)) (hb : 56 * ns.length ≤ 281474976710656) :
    Calls Try.prog 6 #[.slice A ns.length c, .int .i64 a, .int .i64 b, .int .i64 d] w (RetB w (.bool true)) := by
  refine calls_of_run (vs := [_, _, _, _]) (L := [(0, _), (1, _), (2, _), (3, _)]) (n := 52) (F := []) (H := []) Try.func6 rfl rfl rfl rfl (HOk.start _) ?_
  refine Run.seq ?_
  refine Run.quiet (by intro h; cases h) ?_
  refine QOps.st rfl rfl (Yv.assign rfl).yl ?_
  refine QOps.nil ?_
  refine Run.seq ?_
  refine Run.quiet (by intro h; cases h) ?_
  refine QOps.st rfl rfl (Yv.assign rfl).yl ?_
  refine QOps.nil ?_
  refine Run.seq ?_
  refine Run.quiet (by intro h; cases h) ?_
  refine QOps.st rfl rfl (Yv.move rfl).yl ?_
  refine QOps.st rfl rfl (Yv.move rfl).yl ?_
  refine QOps.st rfl rfl (Yl.call callable12 (.cons rfl (.cons rfl (.nil))) (fun w' hw' => szNoticeS_spec (by omega) (by omega) (by omega))) ?_
  refine QOps.st rfl rfl (Yv.assign rfl).yl ?_
  refine QOps.nil ?_
  refine Run.seq ?_
  refine Run.seq ?_
  refine Run.quiet (by intro h; cases h) ?_
  refine QOps.st rfl rfl (Yv.move rfl).yl ?_
  refine QOps.st rfl rfl (Yv.lss rfl rfl).yl ?_
  refine QOps.nil ?_
  refine Run.cond rfl (fun hc1 => ?_) (fun hc1 => ?_)
  · try replace hc1 := of_decide_eq_true hc1
    refine Run.seq ?_
    refine Run.quiet (by intro h; cases h) ?_
    refine QOps.st rfl rfl (Yv.assign rfl).yl ?_
    refine QOps.nil ?_
    refine Run.ret ?_
    refine retQ.of (.inr rfl) rfl (.tmp rfl .nil) (fun w' hw' => ?_)
    refine ⟨?_, hw'.bel.below⟩
    exact rfl
  · try replace hc1 := of_decide_eq_false hc1
    refine Run.skip ?_
    refine Run.seq ?_
    refine Run.ops ?_
    refine SOps.st rfl rfl (Yv.move rfl).yl ?_
    refine SOps.one rfl (One.callRow rfl callable14 (.cons rfl (.nil)) (fun w' hw' => toNoticeS_spec ((Rd.arg hs) w' hw') (by omega)) (fun A1 c1 => ?_))
    refine SOps.st rfl rfl (Yv.move rfl).yl ?_
    refine SOps.st rfl rfl (Yv.move rfl).yl ?_
    refine SOps.st rfl rfl (Yv.move rfl).yl ?_
    refine SOps.st rfl rfl (Yl.call callable21 (.cons rfl (.cons rfl (.cons rfl (.cons rfl (.nil))))) (fun w' hw' => sIsOpen_spec ((Rd.row (i := 0) rfl) w' hw'))) ?_
    refine SOps.st rfl rfl (Yv.move rfl).yl ?_
    refine SOps.st rfl rfl (Yv.extract rfl rfl).yl ?_
    refine SOps.st rfl rfl (Yv.extract rfl rfl).yl ?_
    refine SOps.st rfl rfl (Yv.assign rfl).yl ?_
    refine SOps.st rfl rfl (Yv.assign rfl).yl ?_
    refine SOps.nil ?_
    refine Run.seq ?_
    refine Run.ops ?_
    refine SOps.st rfl rfl (Yv.move rfl).yl ?_
    refine SOps.one rfl (One.callRow rfl callable14 (.cons rfl (.nil)) (fun w' hw' => toNoticeS_spec ((Rd.arg hs) w' hw') (by omega)) (fun A2 c2 => ?_))
    refine SOps.st rfl rfl (Yv.assign rfl).yl ?_
    refine SOps.nil ?_
    refine Run.seq ?_
    refine Run.quiet (by intro h; cases h) ?_
    refine QOps.st rfl rfl (Yv.move rfl).yl ?_
    refine QOps.st rfl rfl (Yv.move rfl).yl ?_
    refine QOps.st rfl rfl (Yv.move rfl).yl ?_
    refine QOps.st rfl rfl (Yv.move rfl).yl ?_
    refine QOps.st rfl rfl (Yl.call callable22 (.cons rfl (.cons rfl (.cons rfl (.cons rfl (.nil))))) (fun w' hw' => IsOpen_spec ((Rd.row (i := 0) rfl) w' hw'))) ?_
    refine QOps.st rfl rfl (Yv.move rfl).yl ?_
    refine QOps.st rfl rfl (Yv.extract rfl rfl).yl ?_
    refine QOps.st rfl rfl (Yv.extract rfl rfl).yl ?_
    refine QOps.st rfl rfl (Yv.assign rfl).yl ?_
    refine QOps.st rfl rfl (Yv.assign rfl).yl ?_
    refine QOps.nil ?_
    refine Run.seq ?_
    refine Run.seq ?_
    refine Run.quiet (by intro h; cases h) ?_
    refine QOps.st rfl rfl (Yv.move rfl).yl ?_
    refine QOps.st rfl rfl (Yv.move rfl).yl ?_
    refine QOps.st rfl rfl (Yv.neB bool4 rfl rfl).yl ?_
    refine QOps.st rfl rfl (Yv.move rfl).yl ?_
    refine' QOps.or [_, _, _] _ (.tmp 45) rfl rfl rfl rfl rfl rfl (fun hg1 => ?_) ?_
    rotate_left
    · try replace hg1 := of_decide_eq_false hg1
      refine QOps.st rfl rfl (Yv.move rfl).yl ?_
      refine QOps.st rfl rfl (Yv.move rfl).yl ?_
      refine QOps.st rfl rfl (Yv.neB bool4 rfl rfl).yl ?_
      exact QOps.nil rfl
    refine QOps.nil ?_
    refine Run.cond rfl (fun hc2 => ?_) (fun hc2 => ?_)
    · exfalso
      simp at hc2
    · try replace hc2 := of_decide_eq_false hc2
      refine Run.skip ?_
      refine Run.seq ?_
      refine Run.seq ?_
      refine Run.ops ?_
      refine SOps.st rfl rfl (Yv.move rfl).yl ?_
      refine SOps.st rfl rfl (Yv.move rfl).yl ?_
      refine SOps.one rfl (One.callRow rfl callable14 (.cons rfl (.nil)) (fun w' hw' => toNoticeS_spec ((Rd.arg hs) w' hw') (by omega)) (fun A3 c3 => ?_))
      refine SOps.st rfl rfl (Yl.call callable16 (.cons rfl (.cons rfl (.nil))) (fun w' hw' => eqNoticeS_spec ((Rd.row (i := 1) rfl) w' hw') ((Rd.row (i := 0) rfl) w' hw'))) ?_
      refine SOps.st rfl rfl (Yv.not rfl).yl ?_
      refine SOps.nil ?_
      refine Run.cond rfl (fun hc3 => ?_) (fun hc3 => ?_)
      · exfalso
        simp at hc3
      · try replace hc3 := of_decide_eq_false hc3
        refine Run.skip ?_
        refine Run.seq ?_
        refine Run.quiet (by intro h; cases h) ?_
        refine QOps.st rfl rfl (Yv.assign rfl).yl ?_
        refine QOps.nil ?_
        refine Run.ret ?_
        refine retQ.of (.inr rfl) rfl (.tmp rfl .nil) (fun w' hw' => ?_)
        refine ⟨?_, hw'.bel.below⟩
        exact rfl

theorem FnExactNextOpenDay_spec {w : World} {A : Option Addr} {c : Nat} {ns : List Notice} {a b d : Int} (hs : Sl w 7 A ns.length c (ns.flatMap Notice.enc)) (hb : 56 * ns.length ≤ 281474976710656) :
    Calls Try.prog 7 #[.slice A ns.length c, .int .i64 a, .int .i64 b, .int .i64 d] w (RetB w (.bool true)) := by
  refine calls_of_run (vs := [_, _, _, _]) (L := [(0, _), (1, _), (2, _), (3, _)]) (n := 52) (F := []) (H := []) Try.func7 rfl rfl rfl rfl (HOk.start _) ?_
  refine Run.seq ?_
  refine Run.quiet (by intro h; cases h) ?_
  refine QOps.st rfl rfl (Yv.assign rfl).yl ?_
  refine QOps.nil ?_
  refine Run.seq ?_
  refine Run.quiet (by intro h; cases h) ?_
  refine QOps.st rfl rfl (Yv.assign rfl).yl ?_
  refine QOps.nil ?_
  refine Run.seq ?_
  refine Run.quiet (by intro h; cases h) ?_
  refine QOps.st rfl rfl (Yv.move rfl).yl ?_
  refine QOps.st rfl rfl (Yv.move rfl).yl ?_
  refine QOps.st rfl rfl (Yl.call callable12 (.cons rfl (.cons rfl (.nil))) (fun w' hw' => szNoticeS_spec (by omega) (by omega) (by omega))) ?_
  refine QOps.st rfl rfl (Yv.assign rfl).yl ?_
  refine QOps.nil ?_
  refine Run.seq ?_
  refine Run.seq ?_
  refine Run.quiet (by intro h; cases h) ?_
  refine QOps.st rfl rfl (Yv.move rfl).yl ?_
  refine QOps.st rfl rfl (Yv.lss rfl rfl).yl ?_
  refine QOps.nil ?_
  refine Run.cond rfl (fun hc1 => ?_) (fun hc1 => ?_)
  · try replace hc1 := of_decide_eq_true hc1
    refine Run.seq ?_
    refine Run.quiet (by intro h; cases h) ?_
    refine QOps.st rfl rfl (Yv.assign rfl).yl ?_
    refine QOps.nil ?_
    refine Run.ret ?_
    refine retQ.of (.inr rfl) rfl (.tmp rfl .nil) (fun w' hw' => ?_)
    refine ⟨?_, hw'.bel.below⟩
    exact rfl
  · try replace hc1 := of_decide_eq_false hc1
    refine Run.skip ?_
    refine Run.seq ?_
    refine Run.ops ?_
    refine SOps.st rfl rfl (Yv.move rfl).yl ?_
    refine SOps.one rfl (One.callRow rfl callable14 (.cons rfl (.nil)) (fun w' hw' => toNoticeS_spec ((Rd.arg hs) w' hw') (by omega)) (fun A1 c1 => ?_))
    refine SOps.st rfl rfl (Yv.move rfl).yl ?_
    refine SOps.st rfl rfl (Yv.move rfl).yl ?_
    refine SOps.st rfl rfl (Yv.move rfl).yl ?_
    refine SOps.st rfl rfl (Yl.call callable23 (.cons rfl (.cons rfl (.cons rfl (.cons rfl (.nil))))) (fun w' hw' => sNextOpenDay_spec ((Rd.row (i := 0) rfl) w' hw'))) ?_
    refine SOps.st rfl rfl (Yv.move rfl).yl ?_
    refine SOps.st rfl rfl (Yv.extract rfl rfl).yl ?_
    refine SOps.st rfl rfl (Yv.extract rfl rfl).yl ?_
    refine SOps.st rfl rfl (Yv.assign rfl).yl ?_
    refine SOps.st rfl rfl (Yv.assign rfl).yl ?_
    refine SOps.nil ?_
    refine Run.seq ?_
    refine Run.ops ?_
    refine SOps.st rfl rfl (Yv.move rfl).yl ?_
    refine SOps.one rfl (One.callRow rfl callable14 (.cons rfl (.nil)) (fun w' hw' => toNoticeS_spec ((Rd.arg hs) w' hw') (by omega)) (fun A2 c2 => ?_))
    refine SOps.st rfl rfl (Yv.assign rfl).yl ?_
    refine SOps.nil ?_
    refine Run.seq ?_
    refine Run.quiet (by intro h; cases h) ?_
    refine QOps.st rfl rfl (Yv.move rfl).yl ?_
    refine QOps.st rfl rfl (Yv.move rfl).yl ?_
    refine QOps.st rfl rfl (Yv.move rfl).yl ?_
    refine QOps.st rfl rfl (Yv.move rfl).yl ?_
    refine QOps.st rfl rfl (Yl.call callable24 (.cons rfl (.cons rfl (.cons rfl (.cons rfl (.nil))))) (fun w' hw' => NextOpenDay_spec ((Rd.row (i := 0) rfl) w' hw'))) ?_
    refine QOps.st rfl rfl (Yv.move rfl).yl ?_
    refine QOps.st rfl rfl (Yv.extract rfl rfl).yl ?_
    refine QOps.st rfl rfl (Yv.extract rfl rfl).yl ?_
    refine QOps.st rfl rfl (Yv.assign rfl).yl ?_
    refine QOps.st rfl rfl (Yv.assign rfl).yl ?_
    refine QOps.nil ?_
    refine Run.seq ?_
    refine Run.seq ?_
    refine Run.quiet (by intro h; cases h) ?_
    refine QOps.st rfl rfl (Yv.move rfl).yl ?_
    refine QOps.st rfl rfl (Yv.move rfl).yl ?_
    refine QOps.st rfl rfl (Yv.neI rfl rfl).yl ?_
    refine QOps.st rfl rfl (Yv.move rfl).yl ?_
    refine' QOps.or [_, _, _] _ (.tmp 45) rfl rfl rfl rfl rfl rfl (fun hg1 => ?_) ?_
    rotate_left
    · try replace hg1 := of_decide_eq_false hg1
      refine QOps.st rfl rfl (Yv.move rfl).yl ?_
      refine QOps.st rfl rfl (Yv.move rfl).yl ?_
      refine QOps.st rfl rfl (Yv.neB bool4 rfl rfl).yl ?_
      exact QOps.nil rfl
    refine QOps.nil ?_
    refine Run.cond rfl (fun hc2 => ?_) (fun hc2 => ?_)
    · exfalso
      simp at hc2
    · try replace hc2 := of_decide_eq_false hc2
      refine Run.skip ?_
      refine Run.seq ?_
      refine Run.seq ?_
      refine Run.ops ?_
      refine SOps.st rfl rfl (Yv.move rfl).yl ?_
      refine SOps.st rfl rfl (Yv.move rfl).yl ?_
      refine SOps.one rfl (One.callRow rfl callable14 (.cons rfl (.nil)) (fun w' hw' => toNoticeS_spec ((Rd.arg hs) w' hw') (by omega)) (fun A3 c3 => ?_))
      refine SOps.st rfl rfl (Yl.call callable16 (.cons rfl (.cons rfl (.nil))) (fun w' hw' => eqNoticeS_spec ((Rd.row (i := 1) rfl) w' hw') ((Rd.row (i := 0) rfl) w' hw'))) ?_
      refine SOps.st rfl rfl (Yv.not rfl).yl ?_
      refine SOps.nil ?_
      refine Run.cond rfl (fun hc3 => ?_) (fun hc3 => ?_)
      · exfalso
        simp at hc3
      · try replace hc3 := of_decide_eq_false hc3
        refine Run.skip ?_
        refine Run.seq ?_
        refine Run.quiet (by intro h; cases h) ?_
        refine QOps.st rfl rfl (Yv.assign rfl).yl ?_
        refine QOps.nil ?_
        refine Run.ret ?_
        refine retQ.of (.inr rfl) rfl (.tmp rfl .nil) (fun w' hw' => ?_)
        refine ⟨?_, hw'.bel.below⟩
        exact rfl

end Go.Proofs.Ytjabeiolgghfdaa
