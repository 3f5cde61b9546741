/- Reports: a number is read, as the reference does it. Conditions: none. -/
import Derived.Test.YtlpgcbkialcjcaaGreatDoorZrD
namespace Go.Proofs.YtlpgcbkialcjcaaGreatDoor
open Go.RowKit
set_option maxRecDepth 100000
theorem itoa_pos {n : Int} (h : 0 ≤ n) : Lib.itoa n = dec n := by rw [Lib.itoa, if_neg (by omega)]
theorem itoa_neg {n : Int} (h : n < 0) : Lib.itoa n = 45 :: dec (-n) := by
  rw [Lib.itoa, if_pos h, show n.natAbs = (-n).toNat by omega]
theorem l1Num_neg {w : World} {n : Int} (h0 : -999999 ≤ n) (h1 : n < 0) : Calls Tryz.prog 57 #[.int .i64 n] w (RetB w (strV (45 :: dec (-n)))) := by
  have hdl := dec_len (n := -n) (by omega) (by omega)
  refine calls_of_run (vs := [_]) (L := [(0, _)]) (n := 25) (F := []) (H := []) Tryz.func57 rfl rfl rfl rfl (HOk.start _) ?_
  refine Run.seq ?_
  refine Run.quiet (by intro h; cases h) ?_
  refine QOps.st rfl rfl (Yv.assign rfl).yl ?_
  refine QOps.nil ?_
  refine Run.seq ?_
  refine Run.seq ?_
  refine Run.quiet (by intro h; cases h) ?_
  refine QOps.st rfl rfl (Yv.move rfl).yl ?_
  refine QOps.st rfl rfl (Yv.lss rfl rfl).yl ?_
  refine QOps.nil ?_
  refine Run.cond rfl (fun hc1 => ?_) (fun hc1 => ?_)
  · try replace hc1 := of_decide_eq_true hc1
    refine Run.seq ?_
    refine Run.quiet (by intro h; cases h) ?_
    refine QOps.st rfl rfl (Yv.move rfl).yl ?_
    refine QOps.st rfl rfl (Yv.neg rfl (by omega)).yl ?_
    refine QOps.st rfl rfl (Yl.call callable57 (.cons rfl (.nil)) (fun w' hw' => l1Num_spec (by omega) (by omega))) ?_
    refine QOps.st rfl rfl (Yv.strAdd (a := [45]) (b := (dec (-n))) rfl rfl (by simp only [List.length_append, List.length_cons, List.length_nil]; omega)).yl ?_
    refine QOps.st rfl rfl (Yv.assign rfl).yl ?_
    refine QOps.nil ?_
    refine Run.ret ?_
    refine retQ.of (.inr rfl) rfl (.tmp rfl .nil) (fun w' hw' => ?_)
    refine ⟨?_, hw'.bel.below⟩
    exact rfl
  · exfalso
    have h9 := of_decide_eq_false hc1
    omega
theorem l1Num_all {w : World} {n : Int} (h0 : -999999 ≤ n) (h1 : n ≤ 999999) : Calls Tryz.prog 57 #[.int .i64 n] w (RetB w (strV (Lib.itoa n))) := by
  rcases Int.lt_or_le n 0 with h | h
  · rw [itoa_neg h]
    exact l1Num_neg h0 h
  · rw [itoa_pos h]
    exact l1Num_spec h h1
/-! Reading -/
def digB (t : List UInt8) (k : Nat) : Bool := decide (48 ≤ ((nth t k).toNat : Int)) && decide (((nth t k).toNat : Int) ≤ 57)
def valTo (t : List UInt8) : Nat → Int
  | 0 => 0
  | k + 1 => 10 * valTo t k + (((nth t k).toNat : Int) - 48)
theorem valTo_range {t : List UInt8} : ∀ {k : Nat}, (∀ i, i < k → digB t i = true) → 0 ≤ valTo t k ∧ valTo t k < (10 : Int) ^ k
  | 0, _ => by simp [valTo]
  | k + 1, h => by
    have ih := valTo_range (t := t) (k := k) (fun i hi => h i (by omega))
    have hd := h k (by omega)
    simp only [digB, Bool.and_eq_true, decide_eq_true_eq] at hd
    rw [valTo, Int.pow_succ]
    omega
theorem pow_six {k : Nat} (h : k ≤ 6) : (10 : Int) ^ k ≤ 1000000 := by
  have := Nat.pow_le_pow_right (show 0 < 10 by omega) h
  have h2 : ((10 ^ k : Nat) : Int) ≤ ((10 ^ 6 : Nat) : Int) := by omega
  simpa using h2
def tailOf (s : List UInt8) : List UInt8 := if 1 < s.length ∧ nth s 0 = 45 then s.drop 1 else s
def signed (s t : List UInt8) : Int := if t.length < s.length then -valTo t t.length else valTo t t.length
/-- What the reference reads. -/
def readR (s : List UInt8) : Int × Bool :=
  if 1 ≤ (tailOf s).length ∧ (tailOf s).length ≤ 6 ∧ (∀ k, k < (tailOf s).length → digB (tailOf s) k = true) ∧ Lib.itoa (signed s (tailOf s)) = s then (signed s (tailOf s), true) else (0, false)
theorem head45 {l : List UInt8} : (decide ((1 : Int) < (l.length : Int)) && decide (((nth l 0).toNat : Int) = 45)) = true ↔ (1 < l.length ∧ nth l 0 = 45) := by
  simp only [Bool.and_eq_true, decide_eq_true_eq]
  constructor
  · intro h
    exact ⟨by omega, UInt8.toNat_inj.1 (show (nth l 0).toNat = (45 : UInt8).toNat by have := h.2; show (nth l 0).toNat = 45; omega)⟩
  · intro h
    refine ⟨by omega, ?_⟩
    rw [h.2]
    rfl
theorem tail_yes {s : List UInt8} (h : 1 < s.length ∧ nth s 0 = 45) : tailOf s = s.drop 1 := by unfold tailOf; rw [if_pos h]
theorem tail_no {s : List UInt8} (h : ¬ (1 < s.length ∧ nth s 0 = 45)) : tailOf s = s := by unfold tailOf; rw [if_neg h]
theorem readR_no {s t : List UInt8} (ht : tailOf s = t) (h : ¬ (1 ≤ t.length ∧ t.length ≤ 6 ∧ (∀ k, k < t.length → digB t k = true) ∧ Lib.itoa (signed s t) = s)) : readR s = (0, false) := by
  subst ht
  unfold readR
  rw [if_neg h]
theorem readR_yes {s t : List UInt8} (ht : tailOf s = t) (h : 1 ≤ t.length ∧ t.length ≤ 6 ∧ (∀ k, k < t.length → digB t k = true) ∧ Lib.itoa (signed s t) = s) : readR s = (signed s t, true) := by
  subst ht
  unfold readR
  rw [if_pos h]
theorem l1Read_spec {w : World} {l : List UInt8} (hl : l.length ≤ 1048576) : Calls Tryz.prog 42 #[strV l] w (RetB w (.tuple #[.int .i64 (readR l).1, .bool (readR l).2])) := by
  refine calls_of_run (vs := [_]) (L := [(0, _)]) (n := 58) (F := []) (H := []) Tryz.func42 rfl rfl rfl rfl (HOk.start _) ?_
  refine Run.seq ?_
  refine Run.quiet (by intro h; cases h) ?_
  refine QOps.st rfl rfl (Yv.assign rfl).yl ?_
  refine QOps.st rfl rfl (Yv.assign rfl).yl ?_
  refine QOps.nil ?_
  refine Run.seq ?_
  refine Run.quiet (by intro h; cases h) ?_
  refine QOps.st rfl rfl (Yv.move rfl).yl ?_
  refine QOps.st rfl rfl (Yv.assign rfl).yl ?_
  refine QOps.nil ?_
  refine Run.seq ?_
  refine Run.seq ?_
  refine Run.quiet (by intro h; cases h) ?_
  refine QOps.st rfl rfl (Yv.move rfl).yl ?_
  refine QOps.st rfl rfl (Yv.strLen (a := l) str9 rfl).yl ?_
  refine QOps.st rfl rfl (Yv.gtr rfl rfl).yl ?_
  refine QOps.st rfl rfl (Yv.move rfl).yl ?_
  refine' QOps.and [_, _, _] _ (.tmp 14) rfl rfl rfl rfl rfl rfl (fun hg1 => ?_) ?_
  rotate_left
  · try replace hg1 := of_decide_eq_true hg1
    refine QOps.st rfl rfl (Yv.move rfl).yl ?_
    refine QOps.st rfl rfl (Yv.strIdx 0 str9 rfl rfl rfl (by omega)).yl ?_
    refine QOps.st rfl rfl (Yv.eqI rfl rfl).yl ?_
    exact QOps.nil rfl
  refine QOps.nil ?_
  refine Run.cond rfl (fun hc1 => ?_) (fun hc1 => ?_)
  · try replace hc1 := of_decide_eq_true hc1
    have htl := tail_yes (s := l) (head45.1 hc1)
    have hdl : (l.drop 1).length = l.length - 1 := List.length_drop
    have hl1 := (head45.1 hc1).1
    refine Run.quiet (by intro h; cases h) ?_
    refine QOps.st rfl rfl (Yv.move rfl).yl ?_
    refine QOps.st rfl rfl (Yv.strFrom (a := l) 1 str9 rfl rfl (by first | rfl | omega) (by omega)).yl ?_
    refine QOps.st rfl rfl (Yv.assign rfl).yl ?_
    refine QOps.nil ?_
    refine Run.seq ?_
    refine Run.seq ?_
    refine Run.quiet (by intro h; cases h) ?_
    refine QOps.st rfl rfl (Yv.move rfl).yl ?_
    refine QOps.st rfl rfl (Yv.strLen (a := (l.drop 1)) str9 rfl).yl ?_
    refine QOps.st rfl rfl (Yl.call callable54 (.cons rfl (.cons rfl (.cons rfl (.nil)))) (fun w' hw' => l1In_spec)) ?_
    refine QOps.st rfl rfl (Yv.not rfl).yl ?_
    refine QOps.nil ?_
    refine Run.cond rfl (fun hc2 => ?_) (fun hc2 => ?_)
    · try replace hc2 := of_decide_eq_true hc2
      refine Run.seq ?_
      refine Run.quiet (by intro h; cases h) ?_
      refine QOps.st rfl rfl (Yv.assign rfl).yl ?_
      refine QOps.st rfl rfl (Yv.assign rfl).yl ?_
      refine QOps.nil ?_
      refine Run.ret ?_
      refine retQ.of (.inr rfl) rfl (.tmp rfl (.tmp rfl .nil)) (fun w' hw' => ?_)
      refine ⟨?_, hw'.bel.below⟩
      rw [readR_no htl (fun h => by have := inB_false.1 (by simpa using hc2 : inB ((l.drop 1).length : Int) 1 6 = false); omega)]; rfl
    · try replace hc2 := of_decide_eq_false hc2
      have hb6 := inB_iff.1 (by simpa using hc2)
      refine Run.skip ?_
      refine Run.seq ?_
      refine Run.quiet (by intro h; cases h) ?_
      refine QOps.st rfl rfl (Yv.assign rfl).yl ?_
      refine QOps.nil ?_
      refine Run.seq ?_
      refine Run.seq ?_
      refine Run.quiet (by intro h; cases h) ?_
      refine QOps.st rfl rfl (Yv.assign rfl).yl ?_
      refine QOps.nil ?_
      refine Run.block ?_
      refine Run.loop (S := Nat × Int) (fun s => match s with | (k, v) => k ≤ (l.drop 1).length ∧ v = valTo (l.drop 1) k ∧ ∀ i, i < k → digB (l.drop 1) i = true) (fun s => match s with | (k, v) => [(0, strV l), (4, strV (l.drop 1)), (5, .int .i64 v), (6, .int .i64 (k : Int))]) (fun s => match s with | (k, v) => []) (fun s => match s with | (k, v) => (l.drop 1).length - k) (0, 0) ?_ (SubE.cons rfl (SubE.cons rfl (SubE.cons rfl (SubE.cons rfl (SubE.nil _))))) (List.Sublist.refl _) ?_
      · exact ⟨Nat.zero_le _, rfl, fun i hi => by omega⟩
      · rintro ⟨k, v⟩ ⟨hk, hv, hall⟩
        show Run _ _ _ _ _ [(0, strV l), (4, strV (l.drop 1)), (5, .int .i64 v), (6, .int .i64 (k : Int))] [] _
        have hvr := valTo_range hall
        have hp6 := pow_six (show k ≤ 6 by omega)
        rw [← hv] at hvr
        have hbt := (nth (l.drop 1) k).toNat_lt
        refine Run.seq ?_
        refine Run.seq ?_
        refine Run.quiet (by intro h; cases h) ?_
        refine QOps.st rfl rfl (Yv.move rfl).yl ?_
        refine QOps.st rfl rfl (Yv.move rfl).yl ?_
        refine QOps.st rfl rfl (Yv.strLen (a := (l.drop 1)) str9 rfl).yl ?_
        refine QOps.st rfl rfl (Yv.lss rfl rfl).yl ?_
        refine QOps.nil ?_
        refine Run.cond rfl (fun hc3 => ?_) (fun hc3 => ?_)
        · try replace hc3 := of_decide_eq_true hc3
          refine Run.skip ?_
          refine Run.seq ?_
          refine Run.block ?_
          refine Run.seq ?_
          refine Run.seq ?_
          refine Run.quiet (by intro h; cases h) ?_
          refine QOps.st rfl rfl (Yv.move rfl).yl ?_
          refine QOps.st rfl rfl (Yv.move rfl).yl ?_
          refine QOps.st rfl rfl (Yv.strIdx k str9 rfl rfl rfl (by omega)).yl ?_
          refine QOps.st rfl rfl (Yv.lss rfl rfl).yl ?_
          refine QOps.st rfl rfl (Yv.move rfl).yl ?_
          refine' QOps.or [_, _, _, _] _ (.tmp 36) rfl rfl rfl rfl rfl rfl (fun hg2 => ?_) ?_
          rotate_left
          · try replace hg2 := of_decide_eq_false hg2
            refine QOps.st rfl rfl (Yv.move rfl).yl ?_
            refine QOps.st rfl rfl (Yv.move rfl).yl ?_
            refine QOps.st rfl rfl (Yv.strIdx k str9 rfl rfl rfl (by omega)).yl ?_
            refine QOps.st rfl rfl (Yv.gtr rfl rfl).yl ?_
            exact QOps.nil rfl
          refine QOps.nil ?_
          refine Run.cond rfl (fun hc4 => ?_) (fun hc4 => ?_)
          · try replace hc4 := of_decide_eq_true hc4
            have hnd : digB (l.drop 1) k = false := by simp [digB] at hc4 ⊢; omega
            refine Run.seq ?_
            refine Run.quiet (by intro h; cases h) ?_
            refine QOps.st rfl rfl (Yv.assign rfl).yl ?_
            refine QOps.st rfl rfl (Yv.assign rfl).yl ?_
            refine QOps.nil ?_
            refine Run.ret ?_
            refine retQ.of (.inr rfl) rfl (.tmp rfl (.tmp rfl .nil)) (fun w' hw' => ?_)
            refine ⟨?_, hw'.bel.below⟩
            rw [readR_no htl (fun h => by have h9 := h.2.2.1 k (by omega); rw [hnd] at h9; cases h9)]; rfl
          · try replace hc4 := of_decide_eq_false hc4
            have hdg : digB (l.drop 1) k = true := by simp [digB] at hc4 ⊢; omega
            refine Run.skip ?_
            refine Run.quiet (by intro h; cases h) ?_
            refine QOps.st rfl rfl (Yv.move rfl).yl ?_
            refine QOps.st rfl rfl (Yv.mul rfl rfl (by omega)).yl ?_
            refine QOps.st rfl rfl (Yv.move rfl).yl ?_
            refine QOps.st rfl rfl (Yv.move rfl).yl ?_
            refine QOps.st rfl rfl (Yv.strIdx k str9 rfl rfl rfl (by omega)).yl ?_
            refine QOps.st rfl rfl (Yv.subW rfl rfl).yl ?_
            refine QOps.st rfl rfl (Yv.convT (j := (((nth (l.drop 1) k).toNat : Int) - 48)) int5 int3 rfl (by simp only [digB, Bool.and_eq_true, decide_eq_true_eq] at hdg; rw [show IntKind.u8.wrap (((nth (l.drop 1) k).toNat : Int) - 48) = ((nth (l.drop 1) k).toNat : Int) - 48 by rw [IntKind.wrap_u8]; omega, IntKind.wrap_i64]; omega)).yl ?_
            refine QOps.st rfl rfl (Yv.add rfl rfl (by omega)).yl ?_
            refine QOps.st rfl rfl (Yv.assign rfl).yl ?_
            refine QOps.nil ?_
            refine Run.quiet (by intro h; cases h) ?_
            refine QOps.st rfl rfl (Yv.move rfl).yl ?_
            refine QOps.st rfl rfl (Yv.succN rfl rfl (by omega)).yl ?_
            refine QOps.st rfl rfl (Yv.assign rfl).yl ?_
            refine QOps.nil ?_
            refine ⟨(k + 1, _), ?_, ?_, (SubE.cons rfl (SubE.cons rfl (SubE.cons rfl (SubE.cons rfl (SubE.nil _))))), (List.Sublist.refl _)⟩
            · exact ⟨by omega, by rw [valTo, hv], all_succ hall hdg⟩
            · first | omega | (dsimp only; omega)
        · try replace hc3 := of_decide_eq_false hc3
          obtain rfl : k = (l.drop 1).length := by omega
          have hsg : signed l (l.drop 1) = -v := by unfold signed; rw [if_pos (by omega), hv]
          refine Run.exit ?_
          refine Run.seq ?_
          refine Run.seq ?_
          refine Run.quiet (by intro h; cases h) ?_
          refine QOps.st rfl rfl (Yv.move rfl).yl ?_
          refine QOps.st rfl rfl (Yv.strLen (a := (l.drop 1)) str9 rfl).yl ?_
          refine QOps.st rfl rfl (Yv.move rfl).yl ?_
          refine QOps.st rfl rfl (Yv.strLen (a := l) str9 rfl).yl ?_
          refine QOps.st rfl rfl (Yv.lss rfl rfl).yl ?_
          refine QOps.nil ?_
          refine Run.cond rfl (fun hc5 => ?_) (fun hc5 => ?_)
          · try replace hc5 := of_decide_eq_true hc5
            refine Run.quiet (by intro h; cases h) ?_
            refine QOps.st rfl rfl (Yv.move rfl).yl ?_
            refine QOps.st rfl rfl (Yv.neg rfl (by omega)).yl ?_
            refine QOps.st rfl rfl (Yv.assign rfl).yl ?_
            refine QOps.nil ?_
            refine Run.seq ?_
            refine Run.seq ?_
            refine Run.quiet (by intro h; cases h) ?_
            refine QOps.st rfl rfl (Yv.move rfl).yl ?_
            refine QOps.st rfl rfl (Yl.call callable57 (.cons rfl (.nil)) (fun w' hw' => l1Num_all (by omega) (by omega))) ?_
            refine QOps.st rfl rfl (Yv.move rfl).yl ?_
            refine QOps.st rfl rfl (Yv.strNe (a := (Lib.itoa ((-v)))) (b := l) rfl rfl).yl ?_
            refine QOps.nil ?_
            refine Run.cond rfl (fun hc6 => ?_) (fun hc6 => ?_)
            · try replace hc6 := of_decide_eq_true hc6
              refine Run.seq ?_
              refine Run.quiet (by intro h; cases h) ?_
              refine QOps.st rfl rfl (Yv.assign rfl).yl ?_
              refine QOps.st rfl rfl (Yv.assign rfl).yl ?_
              refine QOps.nil ?_
              refine Run.ret ?_
              refine retQ.of (.inr rfl) rfl (.tmp rfl (.tmp rfl .nil)) (fun w' hw' => ?_)
              refine ⟨?_, hw'.bel.below⟩
              rw [readR_no htl (fun h => by have h9 := h.2.2.2; rw [hsg] at h9; simp [h9] at hc6)]; rfl
            · try replace hc6 := of_decide_eq_false hc6
              refine Run.skip ?_
              refine Run.seq ?_
              refine Run.quiet (by intro h; cases h) ?_
              refine QOps.st rfl rfl (Yv.move rfl).yl ?_
              refine QOps.st rfl rfl (Yv.assign rfl).yl ?_
              refine QOps.st rfl rfl (Yv.assign rfl).yl ?_
              refine QOps.nil ?_
              refine Run.ret ?_
              refine retQ.of (.inr rfl) rfl (.tmp rfl (.tmp rfl .nil)) (fun w' hw' => ?_)
              refine ⟨?_, hw'.bel.below⟩
              rw [readR_yes htl ⟨by omega, by omega, fun i hi => hall i (by omega), by rw [hsg]; simpa using hc6⟩, hsg]; rfl
          · exfalso
            have h9 := of_decide_eq_false hc5
            simp at h9
            omega
  · try replace hc1 := of_decide_eq_false hc1
    have htl := tail_no (s := l) (fun h => by have h9 := head45.2 h; first | (simp_all; done) | (simp_all; omega))
    refine Run.skip ?_
    refine Run.seq ?_
    refine Run.seq ?_
    refine Run.quiet (by intro h; cases h) ?_
    refine QOps.st rfl rfl (Yv.move rfl).yl ?_
    refine QOps.st rfl rfl (Yv.strLen (a := l) str9 rfl).yl ?_
    refine QOps.st rfl rfl (Yl.call callable54 (.cons rfl (.cons rfl (.cons rfl (.nil)))) (fun w' hw' => l1In_spec)) ?_
    refine QOps.st rfl rfl (Yv.not rfl).yl ?_
    refine QOps.nil ?_
    refine Run.cond rfl (fun hc7 => ?_) (fun hc7 => ?_)
    · try replace hc7 := of_decide_eq_true hc7
      refine Run.seq ?_
      refine Run.quiet (by intro h; cases h) ?_
      refine QOps.st rfl rfl (Yv.assign rfl).yl ?_
      refine QOps.st rfl rfl (Yv.assign rfl).yl ?_
      refine QOps.nil ?_
      refine Run.ret ?_
      refine retQ.of (.inr rfl) rfl (.tmp rfl (.tmp rfl .nil)) (fun w' hw' => ?_)
      refine ⟨?_, hw'.bel.below⟩
      rw [readR_no htl (fun h => by have := inB_false.1 (by simpa using hc7 : inB (l.length : Int) 1 6 = false); omega)]; rfl
    · try replace hc7 := of_decide_eq_false hc7
      have hb6 := inB_iff.1 (by simpa using hc7)
      refine Run.skip ?_
      refine Run.seq ?_
      refine Run.quiet (by intro h; cases h) ?_
      refine QOps.st rfl rfl (Yv.assign rfl).yl ?_
      refine QOps.nil ?_
      refine Run.seq ?_
      refine Run.seq ?_
      refine Run.quiet (by intro h; cases h) ?_
      refine QOps.st rfl rfl (Yv.assign rfl).yl ?_
      refine QOps.nil ?_
      refine Run.block ?_
      refine Run.loop (S := Nat × Int) (fun s => match s with | (k, v) => k ≤ l.length ∧ v = valTo l k ∧ ∀ i, i < k → digB l i = true) (fun s => match s with | (k, v) => [(0, strV l), (4, strV l), (5, .int .i64 v), (6, .int .i64 (k : Int))]) (fun s => match s with | (k, v) => []) (fun s => match s with | (k, v) => l.length - k) (0, 0) ?_ (SubE.cons rfl (SubE.cons rfl (SubE.cons rfl (SubE.cons rfl (SubE.nil _))))) (List.Sublist.refl _) ?_
      · exact ⟨Nat.zero_le _, rfl, fun i hi => by omega⟩
      · rintro ⟨k, v⟩ ⟨hk, hv, hall⟩
        show Run _ _ _ _ _ [(0, strV l), (4, strV l), (5, .int .i64 v), (6, .int .i64 (k : Int))] [] _
        have hvr := valTo_range hall
        have hp6 := pow_six (show k ≤ 6 by omega)
        rw [← hv] at hvr
        have hbt := (nth l k).toNat_lt
        refine Run.seq ?_
        refine Run.seq ?_
        refine Run.quiet (by intro h; cases h) ?_
        refine QOps.st rfl rfl (Yv.move rfl).yl ?_
        refine QOps.st rfl rfl (Yv.move rfl).yl ?_
        refine QOps.st rfl rfl (Yv.strLen (a := l) str9 rfl).yl ?_
        refine QOps.st rfl rfl (Yv.lss rfl rfl).yl ?_
        refine QOps.nil ?_
        refine Run.cond rfl (fun hc8 => ?_) (fun hc8 => ?_)
        · try replace hc8 := of_decide_eq_true hc8
          refine Run.skip ?_
          refine Run.seq ?_
          refine Run.block ?_
          refine Run.seq ?_
          refine Run.seq ?_
          refine Run.quiet (by intro h; cases h) ?_
          refine QOps.st rfl rfl (Yv.move rfl).yl ?_
          refine QOps.st rfl rfl (Yv.move rfl).yl ?_
          refine QOps.st rfl rfl (Yv.strIdx k str9 rfl rfl rfl (by omega)).yl ?_
          refine QOps.st rfl rfl (Yv.lss rfl rfl).yl ?_
          refine QOps.st rfl rfl (Yv.move rfl).yl ?_
          refine' QOps.or [_, _, _, _] _ (.tmp 36) rfl rfl rfl rfl rfl rfl (fun hg3 => ?_) ?_
          rotate_left
          · try replace hg3 := of_decide_eq_false hg3
            refine QOps.st rfl rfl (Yv.move rfl).yl ?_
            refine QOps.st rfl rfl (Yv.move rfl).yl ?_
            refine QOps.st rfl rfl (Yv.strIdx k str9 rfl rfl rfl (by omega)).yl ?_
            refine QOps.st rfl rfl (Yv.gtr rfl rfl).yl ?_
            exact QOps.nil rfl
          refine QOps.nil ?_
          refine Run.cond rfl (fun hc9 => ?_) (fun hc9 => ?_)
          · try replace hc9 := of_decide_eq_true hc9
            have hnd : digB l k = false := by simp [digB] at hc9 ⊢; omega
            refine Run.seq ?_
            refine Run.quiet (by intro h; cases h) ?_
            refine QOps.st rfl rfl (Yv.assign rfl).yl ?_
            refine QOps.st rfl rfl (Yv.assign rfl).yl ?_
            refine QOps.nil ?_
            refine Run.ret ?_
            refine retQ.of (.inr rfl) rfl (.tmp rfl (.tmp rfl .nil)) (fun w' hw' => ?_)
            refine ⟨?_, hw'.bel.below⟩
            rw [readR_no htl (fun h => by have h9 := h.2.2.1 k (by omega); rw [hnd] at h9; cases h9)]; rfl
          · try replace hc9 := of_decide_eq_false hc9
            have hdg : digB l k = true := by simp [digB] at hc9 ⊢; omega
            refine Run.skip ?_
            refine Run.quiet (by intro h; cases h) ?_
            refine QOps.st rfl rfl (Yv.move rfl).yl ?_
            refine QOps.st rfl rfl (Yv.mul rfl rfl (by omega)).yl ?_
            refine QOps.st rfl rfl (Yv.move rfl).yl ?_
            refine QOps.st rfl rfl (Yv.move rfl).yl ?_
            refine QOps.st rfl rfl (Yv.strIdx k str9 rfl rfl rfl (by omega)).yl ?_
            refine QOps.st rfl rfl (Yv.subW rfl rfl).yl ?_
            refine QOps.st rfl rfl (Yv.convT (j := (((nth l k).toNat : Int) - 48)) int5 int3 rfl (by simp only [digB, Bool.and_eq_true, decide_eq_true_eq] at hdg; rw [show IntKind.u8.wrap (((nth l k).toNat : Int) - 48) = ((nth l k).toNat : Int) - 48 by rw [IntKind.wrap_u8]; omega, IntKind.wrap_i64]; omega)).yl ?_
            refine QOps.st rfl rfl (Yv.add rfl rfl (by omega)).yl ?_
            refine QOps.st rfl rfl (Yv.assign rfl).yl ?_
            refine QOps.nil ?_
            refine Run.quiet (by intro h; cases h) ?_
            refine QOps.st rfl rfl (Yv.move rfl).yl ?_
            refine QOps.st rfl rfl (Yv.succN rfl rfl (by omega)).yl ?_
            refine QOps.st rfl rfl (Yv.assign rfl).yl ?_
            refine QOps.nil ?_
            refine ⟨(k + 1, _), ?_, ?_, (SubE.cons rfl (SubE.cons rfl (SubE.cons rfl (SubE.cons rfl (SubE.nil _))))), (List.Sublist.refl _)⟩
            · exact ⟨by omega, by rw [valTo, hv], all_succ hall hdg⟩
            · first | omega | (dsimp only; omega)
        · try replace hc8 := of_decide_eq_false hc8
          obtain rfl : k = l.length := by omega
          have hsg : signed l l = v := by unfold signed; rw [if_neg (by omega), hv]
          refine Run.exit ?_
          refine Run.seq ?_
          refine Run.seq ?_
          refine Run.quiet (by intro h; cases h) ?_
          refine QOps.st rfl rfl (Yv.move rfl).yl ?_
          refine QOps.st rfl rfl (Yv.strLen (a := l) str9 rfl).yl ?_
          refine QOps.st rfl rfl (Yv.move rfl).yl ?_
          refine QOps.st rfl rfl (Yv.strLen (a := l) str9 rfl).yl ?_
          refine QOps.st rfl rfl (Yv.lss rfl rfl).yl ?_
          refine QOps.nil ?_
          refine Run.cond rfl (fun hc10 => ?_) (fun hc10 => ?_)
          · exfalso
            have h9 := of_decide_eq_true hc10
            omega
          · try replace hc10 := of_decide_eq_false hc10
            refine Run.skip ?_
            refine Run.seq ?_
            refine Run.seq ?_
            refine Run.quiet (by intro h; cases h) ?_
            refine QOps.st rfl rfl (Yv.move rfl).yl ?_
            refine QOps.st rfl rfl (Yl.call callable57 (.cons rfl (.nil)) (fun w' hw' => l1Num_all (by omega) (by omega))) ?_
            refine QOps.st rfl rfl (Yv.move rfl).yl ?_
            refine QOps.st rfl rfl (Yv.strNe (a := (Lib.itoa (v))) (b := l) rfl rfl).yl ?_
            refine QOps.nil ?_
            refine Run.cond rfl (fun hc11 => ?_) (fun hc11 => ?_)
            · try replace hc11 := of_decide_eq_true hc11
              refine Run.seq ?_
              refine Run.quiet (by intro h; cases h) ?_
              refine QOps.st rfl rfl (Yv.assign rfl).yl ?_
              refine QOps.st rfl rfl (Yv.assign rfl).yl ?_
              refine QOps.nil ?_
              refine Run.ret ?_
              refine retQ.of (.inr rfl) rfl (.tmp rfl (.tmp rfl .nil)) (fun w' hw' => ?_)
              refine ⟨?_, hw'.bel.below⟩
              rw [readR_no htl (fun h => by have h9 := h.2.2.2; rw [hsg] at h9; simp [h9] at hc11)]; rfl
            · try replace hc11 := of_decide_eq_false hc11
              refine Run.skip ?_
              refine Run.seq ?_
              refine Run.quiet (by intro h; cases h) ?_
              refine QOps.st rfl rfl (Yv.move rfl).yl ?_
              refine QOps.st rfl rfl (Yv.assign rfl).yl ?_
              refine QOps.st rfl rfl (Yv.assign rfl).yl ?_
              refine QOps.nil ?_
              refine Run.ret ?_
              refine retQ.of (.inr rfl) rfl (.tmp rfl (.tmp rfl .nil)) (fun w' hw' => ?_)
              refine ⟨?_, hw'.bel.below⟩
              rw [readR_yes htl ⟨by omega, by omega, fun i hi => hall i (by omega), by rw [hsg]; simpa using hc11⟩, hsg]; rfl
end Go.Proofs.YtlpgcbkialcjcaaGreatDoor
