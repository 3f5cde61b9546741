/- Messages: the reference's parse, walked; the law. Conditions: none. -/
import Derived.Test.YtlpgcbkialcjcaaGreatDoorZrQ
namespace Go.Proofs.YtlpgcbkialcjcaaGreatDoor
open Go.RowKit
set_option maxRecDepth 100000
theorem cut_sub {c : UInt8} : ∀ {l acc x : List UInt8}, x ∈ cutS c acc l → x.length ≤ acc.length + l.length
  | [], acc, x, h => by
    simp only [cutS, List.mem_singleton] at h
    rw [h]; simp
  | b :: l, acc, x, h => by
    rw [cutS] at h
    split at h
    · rcases List.mem_cons.1 h with h | h
      · rw [h]; simp
      · have := cut_sub h
        simp at this ⊢
        omega
    · have := cut_sub h
      simp at this ⊢
      omega
theorem sub_len {c : UInt8} {l : List UInt8} {k : Nat} : (nth (cutS c [] l) k).length ≤ l.length := by
  rcases Nat.lt_or_ge k (cutS c [] l).length with h | h
  · have := cut_sub (List.mem_of_getElem? (nth_get h))
    simpa using this
  · have e : nth (cutS c [] l) k = [] := by simp [nth, h]; rfl
    rw [e]; simp
theorem cut_len {c : UInt8} : ∀ {l acc : List UInt8}, (cutS c acc l).length ≤ l.length + 1
  | [], acc => by simp [cutS]
  | b :: l, acc => by
    rw [cutS]
    split
    · have := cut_len (c := c) (l := l) (acc := [])
      simp
      omega
    · have := cut_len (c := c) (l := l) (acc := acc ++ [b])
      simp
      omega
theorem cut_pos {c : UInt8} : ∀ {l acc : List UInt8}, 1 ≤ (cutS c acc l).length
  | [], acc => by simp [cutS]
  | b :: l, acc => by
    rw [cutS]
    split
    · simp
    · exact cut_pos
theorem split32_spec {w : World} {l : List UInt8} (hl : l.length ≤ 1048576) : Calls Tryz.prog 39 #[strV l, .int .u8 32] w (RetRow w 9 1 (cutS 32 [] l).length ((cutS 32 [] l).flatMap strC) (fun v => v)) := by
  rw [← partsOf_cut]
  exact l1Split_spec (b := 32) hl
theorem split35_spec {w : World} {l : List UInt8} (hl : l.length ≤ 1048576) : Calls Tryz.prog 39 #[strV l, .int .u8 35] w (RetRow w 9 1 (cutS 35 [] l).length ((cutS 35 [] l).flatMap strC) (fun v => v)) := by
  rw [← partsOf_cut]
  exact l1Split_spec (b := 35) hl
theorem sealA_spec {w : World} {l : List UInt8} (hl : l.length ≤ 4000) : Calls Tryz.prog 56 #[strV l] w (RetB w (strV (sealT l))) := by
  have hsr := sumTo_range (l := l) (k := l.length)
  have hsl := dec_len (n := sumOf l) (by unfold sumOf; omega) (by unfold sumOf; omega)
  have hs0 : 0 ≤ sumOf l ∧ sumOf l < 999979 := hsr
  refine calls_of_run (vs := [_]) (L := [(0, _)]) (n := 9) (F := []) (H := []) Tryz.func56 rfl rfl rfl rfl (HOk.start _) ?_
  refine Run.seq ?_
  refine Run.quiet (by intro h; cases h) ?_
  refine QOps.st rfl rfl (Yv.assign rfl).yl ?_
  refine QOps.nil ?_
  refine Run.seq ?_
  refine Run.quiet (by intro h; cases h) ?_
  refine QOps.st rfl rfl (Yv.move rfl).yl ?_
  refine QOps.st rfl rfl (Yv.strAdd (a := l) (b := [35]) rfl rfl (by simp only [List.length_append, List.length_cons, List.length_nil]; omega)).yl ?_
  refine QOps.st rfl rfl (Yv.move rfl).yl ?_
  refine QOps.st rfl rfl (Yl.call callable78 (.cons rfl (.nil)) (fun w' hw' => l1Sum_spec (by omega))) ?_
  refine QOps.st rfl rfl (Yl.call callable57 (.cons rfl (.nil)) (fun w' hw' => l1Num_spec (by omega) (by omega))) ?_
  refine QOps.st rfl rfl (Yv.strAdd (a := (l ++ [35])) (b := (dec ((sumOf l)))) rfl rfl (by simp only [List.length_append, List.length_cons, List.length_nil]; omega)).yl ?_
  refine QOps.st rfl rfl (Yv.assign rfl).yl ?_
  refine QOps.nil ?_
  refine Run.ret ?_
  refine retQ.of (.inr rfl) rfl (.tmp rfl .nil) (fun w' hw' => ?_)
  refine ⟨?_, hw'.bel.below⟩
  exact rfl
theorem sVerify_spec {w : World} {l : List UInt8} (hl : l.length ≤ 1048576) : Calls Tryz.prog 37 #[strV l] w (RetB w (.tuple #[strV (verS l).1, .bool (verS l).2])) := by
  have hsu := sub_len (c := 35) (l := l) (k := 0)
  have hcl := cut_len (c := 35) (l := l) (acc := [])
  have hcp := cut_pos (c := 35) (l := l) (acc := [])
  refine calls_of_run (vs := [_]) (L := [(0, _)]) (n := 17) (F := []) (H := []) Tryz.func37 rfl rfl rfl rfl (HOk.start _) ?_
  refine Run.seq ?_
  refine Run.quiet (by intro h; cases h) ?_
  refine QOps.st rfl rfl (Yv.assign rfl).yl ?_
  refine QOps.st rfl rfl (Yv.assign rfl).yl ?_
  refine QOps.nil ?_
  refine Run.seq ?_
  refine Run.seq ?_
  refine Run.quiet (by intro h; cases h) ?_
  refine QOps.st rfl rfl (Yv.move rfl).yl ?_
  refine QOps.st rfl rfl (Yv.strLen (a := l) str9 rfl).yl ?_
  refine QOps.st rfl rfl (Yv.gtr rfl rfl).yl ?_
  refine QOps.nil ?_
  refine Run.cond rfl (fun hc1 => ?_) (fun hc1 => ?_)
  · try replace hc1 := of_decide_eq_true hc1
    have hz : verS l = ([], false) := by unfold verS; rw [if_neg (by omega)]
    refine Run.seq ?_
    refine Run.quiet (by intro h; cases h) ?_
    refine QOps.st rfl rfl (Yv.assign rfl).yl ?_
    refine QOps.st rfl rfl (Yv.assign rfl).yl ?_
    refine QOps.nil ?_
    refine Run.ret ?_
    refine retQ.of (.inr rfl) rfl (.tmp rfl (.tmp rfl .nil)) (fun w' hw' => ?_)
    refine ⟨?_, hw'.bel.below⟩
    exact retSB_eq hz
  · try replace hc1 := of_decide_eq_false hc1
    refine Run.skip ?_
    refine Run.seq ?_
    refine Run.ops ?_
    refine SOps.st rfl rfl (Yv.move rfl).yl ?_
    refine SOps.one rfl (One.callRow rfl callable39 (.cons rfl (.cons rfl (.nil))) (fun w' hw' => split35_spec (by omega)) (fun A1 c1 => ?_))
    refine SOps.st rfl rfl (Yv.indexAddr 0 el50 rfl rfl rfl (Rd.row (i := 0) rfl) (by omega)).yl ?_
    refine SOps.st rfl rfl (Yv.loadE lay9 rfl strC_len (Rd.row (i := 0) rfl) (by first | omega | (simp; omega)) rfl).yl ?_
    refine SOps.st rfl rfl (Yv.assign rfl).yl ?_
    refine SOps.nil ?_
    refine Run.seq ?_
    refine Run.seq ?_
    refine Run.quiet (by intro h; cases h) ?_
    refine QOps.st rfl rfl (Yv.move rfl).yl ?_
    refine QOps.st rfl rfl (Yl.call callable56 (.cons rfl (.nil)) (fun w' hw' => sealA_spec (by omega))) ?_
    refine QOps.st rfl rfl (Yv.move rfl).yl ?_
    refine QOps.st rfl rfl (Yv.strNe (a := (sealT (nth (cutS 35 [] l) (0)))) (b := l) rfl rfl).yl ?_
    refine QOps.nil ?_
    refine Run.cond rfl (fun hc2 => ?_) (fun hc2 => ?_)
    · try replace hc2 := of_decide_eq_true hc2
      have hz : verS l = ([], false) := by unfold verS headT; rw [if_neg (fun h => by rw [h.2] at hc2; simp at hc2)]
      refine Run.seq ?_
      refine Run.quiet (by intro h; cases h) ?_
      refine QOps.st rfl rfl (Yv.assign rfl).yl ?_
      refine QOps.st rfl rfl (Yv.assign rfl).yl ?_
      refine QOps.nil ?_
      refine Run.ret ?_
      refine retQ.of (.inr rfl) rfl (.tmp rfl (.tmp rfl .nil)) (fun w' hw' => ?_)
      refine ⟨?_, hw'.bel.below⟩
      exact retSB_eq hz
    · try replace hc2 := of_decide_eq_false hc2
      have hz : verS l = (nth (cutS 35 [] l) 0, true) := by unfold verS headT; rw [if_pos ⟨by omega, by simpa using hc2⟩]
      refine Run.skip ?_
      refine Run.seq ?_
      refine Run.quiet (by intro h; cases h) ?_
      refine QOps.st rfl rfl (Yv.move rfl).yl ?_
      refine QOps.st rfl rfl (Yv.assign rfl).yl ?_
      refine QOps.st rfl rfl (Yv.assign rfl).yl ?_
      refine QOps.nil ?_
      refine Run.ret ?_
      refine retQ.of (.inr rfl) rfl (.tmp rfl (.tmp rfl .nil)) (fun w' hw' => ?_)
      refine ⟨?_, hw'.bel.below⟩
      exact retSB_eq hz
theorem verS_len {s : List UInt8} : (verS s).1.length ≤ s.length := by
  have := sub_len (c := 35) (l := s) (k := 0)
  unfold verS headT
  split
  · exact this
  · simp
theorem twelve {b : Bool} {n : Nat} (h : (!b || !decide ((n : Int) = 12)) = false) : b = true ∧ n = 12 := by
  simp at h
  exact ⟨h.1, by omega⟩
theorem all_ok {b : Bool} {n m : Nat} (h : (!b || !decide ((n : Int) = 12) || decide ((m : Int) < 2)) = false) : b = true ∧ n = 12 ∧ 2 ≤ m := by
  simp at h
  exact ⟨h.1.1, by omega, by omega⟩
theorem all_no {l : List UInt8} (h : (!(verS l).2 || !decide (((cutS 32 [] (verS l).1).length : Int) = 12) || decide (((nth (cutS 32 [] (verS l).1) 3).length : Int) < 2)) = true) : parseM l = (default, false) := by
  unfold parseM
  rw [if_neg]
  rintro ⟨h1, h2, h3, _⟩
  rw [h1, h2] at h
  simp at h
  omega
theorem finalM_no {l : List UInt8} (hc : (!oneR (readM (cutS 32 [] (verS l).1)) || !(sealT (msgT (readM (cutS 32 [] (verS l).1))) == l)) = true) : parseM l = (default, false) := by
  unfold parseM
  rw [if_neg]
  rintro ⟨_, _, _, h4, h5⟩
  rw [h4, h5] at hc
  simp at hc
theorem sParseMessage_spec {w : World} {l : List UInt8} (hl : l.length ≤ 1048576) : Calls Tryz.prog 11 #[strV l] w (RetB w (.tuple #[.agg (parseM l).1.enc.toArray, .bool (parseM l).2])) := by
  have hvl := verS_len (s := l)
  have hsub : ∀ k, (nth (cutS 32 [] (verS l).1) k).length ≤ 1048576 := fun k => by have := sub_len (c := 32) (l := (verS l).1) (k := k); omega
  have hs3 := hsub 3
  have hs4 := hsub 4
  have hcl := cut_len (c := 32) (l := (verS l).1) (acc := [])
  refine calls_of_run (vs := [_]) (L := [(0, _)]) (n := 95) (F := []) (H := []) Tryz.func11 rfl rfl rfl rfl (HOk.start _) ?_
  refine Run.seq ?_
  refine Run.ops ?_
  refine SOps.one rfl (One.alloc rfl zero25 (fun b1 => ?_))
  refine SOps.st rfl rfl (Yv.assign rfl).yl ?_
  refine SOps.nil ?_
  refine Run.seq ?_
  refine Run.ops ?_
  refine SOps.st rfl rfl (Yv.buildG (pv := []) (cs := [_, _, _, _, _, _]) (fun _ => [.int .i64 0, .int .i64 0, .int .i64 0, .int .i64 0, .int .i64 0, .int .i64 0]) .nil rfl rfl (by kernel_rfl)).yl ?_
  refine SOps.one rfl (One.alloc rfl zero25 (fun b2 => ?_))
  refine SOps.one rfl (One.store (i := 0) (off := 0) (vs := [_, _, _, _, _, _]) (cs' := [_, _, _, _, _, _]) (H' := [_, _]) lay25 rfl rfl rfl rfl rfl rfl rfl rfl rfl rfl ?_)
  refine SOps.nil ?_
  refine Run.seq ?_
  refine Run.quiet (by intro h; cases h) ?_
  refine QOps.st rfl rfl (Yv.move rfl).yl ?_
  refine QOps.st rfl rfl (Yl.call callable37 (.cons rfl (.nil)) (fun w' hw' => sVerify_spec (by omega))) ?_
  refine QOps.st rfl rfl (Yv.move rfl).yl ?_
  refine QOps.st rfl rfl (Yv.extract rfl rfl).yl ?_
  refine QOps.st rfl rfl (Yv.extract rfl rfl).yl ?_
  refine QOps.st rfl rfl (Yv.assign rfl).yl ?_
  refine QOps.st rfl rfl (Yv.assign rfl).yl ?_
  refine QOps.nil ?_
  refine Run.seq ?_
  refine Run.ops ?_
  refine SOps.st rfl rfl (Yv.move rfl).yl ?_
  refine SOps.one rfl (One.callRow rfl callable39 (.cons rfl (.cons rfl (.nil))) (fun w' hw' => split32_spec (by omega)) (fun A1 c1 => ?_))
  refine SOps.st rfl rfl (Yv.assign rfl).yl ?_
  refine SOps.nil ?_
  refine Run.seq ?_
  refine Run.seq ?_
  refine Run.quiet (by intro h; cases h) ?_
  refine QOps.st rfl rfl (Yv.move rfl).yl ?_
  refine QOps.st rfl rfl (Yv.not rfl).yl ?_
  refine QOps.st rfl rfl (Yv.move rfl).yl ?_
  refine' QOps.or [_, _, _] _ (.tmp 22) rfl rfl rfl rfl rfl rfl (fun hg1 => ?_) ?_
  rotate_left
  · try replace hg1 := of_decide_eq_false hg1
    refine QOps.st rfl rfl (Yv.move rfl).yl ?_
    refine QOps.st rfl rfl (Yv.lenS el50s rfl).yl ?_
    refine QOps.st rfl rfl (Yv.neI rfl rfl).yl ?_
    exact QOps.nil rfl
  refine QOps.st rfl rfl (Yv.move rfl).yl ?_
  refine' QOps.or [_, _, _, _, _] _ (.tmp 29) rfl rfl rfl rfl rfl rfl (fun hg2 => ?_) ?_
  rotate_left
  · try replace hg2 := of_decide_eq_false hg2
    have hw := twelve hg2
    refine QOps.st rfl rfl (Yv.move rfl).yl ?_
    refine QOps.st rfl rfl (Yv.indexAddr 3 el50 rfl rfl rfl (Rd.row (i := 0) rfl) (by omega)).yl ?_
    refine QOps.st rfl rfl (Yv.loadE lay9 rfl strC_len (Rd.row (i := 0) rfl) (by first | omega | (simp; omega)) rfl).yl ?_
    refine QOps.st rfl rfl (Yv.strLen (a := (nth (cutS 32 [] (verS l).1) (3))) str9 rfl).yl ?_
    refine QOps.st rfl rfl (Yv.lss rfl rfl).yl ?_
    exact QOps.nil rfl
  refine QOps.nil ?_
  refine Run.cond rfl (fun hc1 => ?_) (fun hc1 => ?_)
  · try replace hc1 := of_decide_eq_true hc1
    have hz := all_no (by simpa using hc1)
    refine Run.seq ?_
    refine Run.ops ?_
    refine SOps.st rfl rfl (Yv.loadBs (i := 1) lay25 rfl rfl rfl rfl).yl ?_
    refine SOps.one rfl (One.store (i := 2) (off := 0) (vs := [_, _, _, _, _, _]) (cs' := [_, _, _, _, _, _]) (H' := [_, _, _]) lay25 rfl rfl rfl rfl rfl rfl rfl rfl rfl rfl ?_)
    refine SOps.st rfl rfl (Yv.assign rfl).yl ?_
    refine SOps.nil ?_
    refine Run.ret ?_
    refine retQ.of (.inr rfl) rfl (.cells (i := 2) rfl lay25 rfl rfl (.tmp rfl .nil)) (fun w' hw' => ?_)
    refine ⟨?_, hw'.bel.below⟩
    exact retMB_eq hz
  · try replace hc1 := of_decide_eq_false hc1
    obtain ⟨hv2, hw12, hw2⟩ := all_ok hc1
    refine Run.skip ?_
    refine Run.seqMid (S := Nat) (fun s => match s with | b4 => True) (fun s => match s with | b4 => [(0, strV l), (2, .pointer (some ⟨b1, 0, none⟩)), (4, .pointer (some ⟨b2, 0, none⟩)), (7, .slice A1 ((cutS 32 [] (verS l).1).length) c1), (8, .pointer (some ⟨b4, 0, none⟩))]) (fun s => match s with | b4 => [.blk b4 25 [.int .i64 0, .int .i64 0, .int .i64 (idx3 wordsL (nth (cutS 32 [] (verS l).1) 4)), .int .i64 0, .int .i64 0, .int .i64 0], .row A1 c1 9 1 (cutS 32 [] (verS l).1).length ((cutS 32 [] (verS l).1).flatMap strC), .blk b2 25 [.int .i64 0, .int .i64 0, .int .i64 0, .int .i64 0, .int .i64 0, .int .i64 0], .blk b1 25 [.int .i64 0, .int .i64 0, .int .i64 0, .int .i64 0, .int .i64 0, .int .i64 0]]) ?_ ?_
    ·
      refine Run.draws (fun H => H) (m := 8) (listed := #[false, false, false, false, false, false, false, false]) (by kernel_rfl) rfl rfl ?_
      refine DOps.take (listed' := #[false, true, false, false, false, false, false, false]) 1 rfl (by kernel_rfl) rfl (List.Sublist.refl _) rfl rfl (Yv.move rfl) ?_
      refine DOps.take (listed' := #[false, true, true, false, false, false, false, false]) 2 rfl (by kernel_rfl) rfl (List.Sublist.refl _) rfl rfl (Yv.indexAddr 4 el50 rfl rfl rfl (Rd.row (i := 0) rfl) (by omega)) ?_
      refine DOps.take (listed' := #[false, true, true, true, false, false, false, false]) 3 rfl (by kernel_rfl) rfl (List.Sublist.refl _) rfl rfl (Yv.loadE lay9 rfl strC_len (Rd.row (i := 0) rfl) (by first | omega | (simp; omega)) rfl) ?_
      refine DOps.fork2 (l1 := #[true, true, true, true, false, false, false, false]) (l2 := #[false, true, true, true, false, false, true, false]) 0 6 rfl rfl (by kernel_rfl) rfl rfl rfl rfl ?_ ?_
      ·
        refine One.callRow rfl callable41 .nil (fun w' hw' => l20Words_spec) (fun A2 c2 => ?_)
        refine ⟨(List.Sublist.cons _ (List.Sublist.refl _)), ?_⟩
        refine DOps.fork2 (l1 := #[true, true, true, true, true, false, false, false]) (l2 := #[true, true, true, true, false, false, true, false]) 4 6 rfl rfl (by kernel_rfl) rfl rfl rfl rfl ?_ ?_
        ·
          refine One.st rfl (Yl.call callable40 (.cons rfl (.cons rfl (.nil))) (fun w' hw' => l3Index_spec (ls := wordsL) ((Rd.row (i := 0) rfl) w' hw'))) ?_
          refine ⟨(List.Sublist.cons _ (List.Sublist.refl _)), ?_⟩
          refine DOps.take (listed' := #[true, true, true, true, true, true, false, false]) 5 rfl (by kernel_rfl) rfl (List.Sublist.cons _ (List.Sublist.refl _)) rfl rfl (Yv.buildG (pv := [(2, _)]) (cs := [_, _, _, _, _, _]) (fun l => match l with | [a0_0] => [.int .i64 0, .int .i64 0, a0_0, .int .i64 0, .int .i64 0, .int .i64 0] | _ => []) (.cons rfl (.nil)) rfl rfl (by kernel_rfl)) ?_
          refine DOps.only (listed' := #[true, true, true, true, true, true, true, false]) 6 rfl (by kernel_rfl) rfl rfl ?_
          refine One.alloc rfl zero25 (fun b3 => ?_)
          refine ⟨(List.Sublist.cons _ (List.Sublist.cons _ (List.Sublist.refl _))), ?_⟩
          refine DOps.only (listed' := #[true, true, true, true, true, true, true, true]) 7 rfl (by kernel_rfl) rfl rfl ?_
          refine One.store (i := 0) (off := 0) (vs := [_, _, _, _, _, _]) (cs' := [_, _, _, _, _, _]) (H' := [_, _, _, _, _]) lay25 rfl rfl rfl rfl rfl rfl rfl rfl rfl rfl ?_
          refine ⟨(List.Sublist.cons _ (List.Sublist.cons _ (List.Sublist.refl _))), ?_⟩
          refine DOps.done (by kernel_rfl) ?_
          refine ⟨_, ?_, (SubE.cons rfl (SubE.cons rfl (SubE.cons rfl (SubE.cons rfl (SubE.cons rfl (SubE.nil _)))))), (List.Sublist.cons_cons _ (List.Sublist.cons _ (List.Sublist.refl _)))⟩
          · exact trivial
        ·
          refine One.alloc rfl zero25 (fun b3 => ?_)
          refine ⟨(List.Sublist.cons _ (List.Sublist.cons _ (List.Sublist.refl _))), ?_⟩
          refine DOps.only (listed' := #[true, true, true, true, true, false, true, false]) 4 rfl (by kernel_rfl) rfl rfl ?_
          refine One.st rfl (Yl.call callable40 (.cons rfl (.cons rfl (.nil))) (fun w' hw' => l3Index_spec (ls := wordsL) ((Rd.row (i := 1) rfl) w' hw'))) ?_
          refine ⟨(List.Sublist.cons _ (List.Sublist.cons _ (List.Sublist.refl _))), ?_⟩
          refine DOps.take (listed' := #[true, true, true, true, true, true, true, false]) 5 rfl (by kernel_rfl) rfl (List.Sublist.cons _ (List.Sublist.cons _ (List.Sublist.refl _))) rfl rfl (Yv.buildG (pv := [(2, _)]) (cs := [_, _, _, _, _, _]) (fun l => match l with | [a0_0] => [.int .i64 0, .int .i64 0, a0_0, .int .i64 0, .int .i64 0, .int .i64 0] | _ => []) (.cons rfl (.nil)) rfl rfl (by kernel_rfl)) ?_
          refine DOps.only (listed' := #[true, true, true, true, true, true, true, true]) 7 rfl (by kernel_rfl) rfl rfl ?_
          refine One.store (i := 0) (off := 0) (vs := [_, _, _, _, _, _]) (cs' := [_, _, _, _, _, _]) (H' := [_, _, _, _, _]) lay25 rfl rfl rfl rfl rfl rfl rfl rfl rfl rfl ?_
          refine ⟨(List.Sublist.cons _ (List.Sublist.cons _ (List.Sublist.refl _))), ?_⟩
          refine DOps.done (by kernel_rfl) ?_
          refine ⟨_, ?_, (SubE.cons rfl (SubE.cons rfl (SubE.cons rfl (SubE.cons rfl (SubE.cons rfl (SubE.nil _)))))), (List.Sublist.cons_cons _ (List.Sublist.cons _ (List.Sublist.refl _)))⟩
          · exact trivial
      ·
        refine One.alloc rfl zero25 (fun b3 => ?_)
        refine ⟨(List.Sublist.cons _ (List.Sublist.refl _)), ?_⟩
        refine DOps.only (listed' := #[true, true, true, true, false, false, true, false]) 0 rfl (by kernel_rfl) rfl rfl ?_
        refine One.callRow rfl callable41 .nil (fun w' hw' => l20Words_spec) (fun A2 c2 => ?_)
        refine ⟨(List.Sublist.cons _ (List.Sublist.cons _ (List.Sublist.refl _))), ?_⟩
        refine DOps.only (listed' := #[true, true, true, true, true, false, true, false]) 4 rfl (by kernel_rfl) rfl rfl ?_
        refine One.st rfl (Yl.call callable40 (.cons rfl (.cons rfl (.nil))) (fun w' hw' => l3Index_spec (ls := wordsL) ((Rd.row (i := 0) rfl) w' hw'))) ?_
        refine ⟨(List.Sublist.cons _ (List.Sublist.cons _ (List.Sublist.refl _))), ?_⟩
        refine DOps.take (listed' := #[true, true, true, true, true, true, true, false]) 5 rfl (by kernel_rfl) rfl (List.Sublist.cons _ (List.Sublist.cons _ (List.Sublist.refl _))) rfl rfl (Yv.buildG (pv := [(2, _)]) (cs := [_, _, _, _, _, _]) (fun l => match l with | [a0_0] => [.int .i64 0, .int .i64 0, a0_0, .int .i64 0, .int .i64 0, .int .i64 0] | _ => []) (.cons rfl (.nil)) rfl rfl (by kernel_rfl)) ?_
        refine DOps.only (listed' := #[true, true, true, true, true, true, true, true]) 7 rfl (by kernel_rfl) rfl rfl ?_
        refine One.store (i := 1) (off := 0) (vs := [_, _, _, _, _, _]) (cs' := [_, _, _, _, _, _]) (H' := [_, _, _, _, _]) lay25 rfl rfl rfl rfl rfl rfl rfl rfl rfl rfl ?_
        refine ⟨(List.Sublist.cons _ (List.Sublist.cons _ (List.Sublist.refl _))), ?_⟩
        refine DOps.done (by kernel_rfl) ?_
        refine ⟨_, ?_, (SubE.cons rfl (SubE.cons rfl (SubE.cons rfl (SubE.cons rfl (SubE.cons rfl (SubE.nil _)))))), (List.Sublist.cons _ (List.Sublist.refl _))⟩
        · exact trivial
    · rintro b4 -
      show Run _ _ _ _ _ [(0, strV l), (2, .pointer (some ⟨b1, 0, none⟩)), (4, .pointer (some ⟨b2, 0, none⟩)), (7, .slice A1 ((cutS 32 [] (verS l).1).length) c1), (8, .pointer (some ⟨b4, 0, none⟩))] [.blk b4 25 [.int .i64 0, .int .i64 0, .int .i64 (idx3 wordsL (nth (cutS 32 [] (verS l).1) 4)), .int .i64 0, .int .i64 0, .int .i64 0], .row A1 c1 9 1 (cutS 32 [] (verS l).1).length ((cutS 32 [] (verS l).1).flatMap strC), .blk b2 25 [.int .i64 0, .int .i64 0, .int .i64 0, .int .i64 0, .int .i64 0, .int .i64 0], .blk b1 25 [.int .i64 0, .int .i64 0, .int .i64 0, .int .i64 0, .int .i64 0, .int .i64 0]] _
      refine Run.seq ?_
      refine Run.ops ?_
      refine SOps.st rfl rfl (Yv.move rfl).yl ?_
      refine SOps.st rfl rfl (Yv.indexAddr 1 el50 rfl rfl rfl (Rd.row (i := 1) rfl) (by omega)).yl ?_
      refine SOps.st rfl rfl (Yv.loadE lay9 rfl strC_len (Rd.row (i := 1) rfl) (by first | omega | (simp; omega)) rfl).yl ?_
      refine SOps.st rfl rfl (Yl.call callable42 (.cons rfl (.nil)) (fun w' hw' => l1Read_spec (by first | exact hsub _ | (simp; omega)))) ?_
      refine SOps.st rfl rfl (Yv.move rfl).yl ?_
      refine SOps.st rfl rfl (Yv.extract rfl rfl).yl ?_
      refine SOps.st rfl rfl (Yv.extract rfl rfl).yl ?_
      refine SOps.st rfl rfl (Yv.fieldAddr fld25_0 rfl).yl ?_
      refine SOps.one rfl (One.store (i := 0) (off := 0) (vs := [_]) (cs' := [_, _, _, _, _, _]) (H' := [_, _, _, _]) lay3 rfl rfl rfl rfl rfl rfl rfl rfl rfl rfl ?_)
      refine SOps.nil ?_
      refine Run.seq ?_
      refine Run.draws (fun H => (H).eraseIdx 0) (m := 15) (listed := #[false, false, false, false, false, false, false, false, false, false, false, false, false, false, false]) (by kernel_rfl) rfl rfl ?_
      refine DOps.take (listed' := #[true, false, false, false, false, false, false, false, false, false, false, false, false, false, false]) 0 rfl (by kernel_rfl) rfl (List.Sublist.cons _ (List.Sublist.refl _)) rfl rfl (Yv.move rfl) ?_
      refine DOps.take (listed' := #[true, true, false, false, false, false, false, false, false, false, false, false, false, false, false]) 1 rfl (by kernel_rfl) rfl (List.Sublist.cons _ (List.Sublist.refl _)) rfl rfl (Yv.indexAddr 3 el50 rfl rfl rfl (Rd.row (i := 0) rfl) (by omega)) ?_
      refine DOps.take (listed' := #[true, true, true, false, false, false, false, false, false, false, false, false, false, false, false]) 2 rfl (by kernel_rfl) rfl (List.Sublist.cons _ (List.Sublist.refl _)) rfl rfl (Yv.loadE lay9 rfl strC_len (Rd.row (i := 0) rfl) (by first | omega | (simp; omega)) rfl) ?_
      refine DOps.take (listed' := #[true, true, true, true, false, false, false, false, false, false, false, false, false, false, false]) 3 rfl (by kernel_rfl) rfl (List.Sublist.cons _ (List.Sublist.refl _)) rfl rfl (Yv.move rfl) ?_
      refine DOps.take (listed' := #[true, true, true, true, true, false, false, false, false, false, false, false, false, false, false]) 4 rfl (by kernel_rfl) rfl (List.Sublist.cons _ (List.Sublist.refl _)) rfl rfl (Yv.indexAddr 3 el50 rfl rfl rfl (Rd.row (i := 0) rfl) (by omega)) ?_
      refine DOps.take (listed' := #[true, true, true, true, true, true, false, false, false, false, false, false, false, false, false]) 5 rfl (by kernel_rfl) rfl (List.Sublist.cons _ (List.Sublist.refl _)) rfl rfl (Yv.loadE lay9 rfl strC_len (Rd.row (i := 0) rfl) (by first | omega | (simp; omega)) rfl) ?_
      refine DOps.take (listed' := #[true, true, true, true, true, true, true, false, false, false, false, false, false, false, false]) 6 rfl (by kernel_rfl) rfl (List.Sublist.cons _ (List.Sublist.refl _)) rfl rfl (Yv.strLen (a := (nth (cutS 32 [] (verS l).1) (3))) str9 rfl) ?_
      refine DOps.take (listed' := #[true, true, true, true, true, true, true, true, false, false, false, false, false, false, false]) 7 rfl (by kernel_rfl) rfl (List.Sublist.cons _ (List.Sublist.refl _)) rfl rfl (Yv.sub rfl rfl (by omega)) ?_
      refine DOps.take (listed' := #[true, true, true, true, true, true, true, true, true, false, false, false, false, false, false]) 8 rfl (by kernel_rfl) rfl (List.Sublist.cons _ (List.Sublist.refl _)) rfl rfl (Yv.strTo (a := (nth (cutS 32 [] (verS l).1) (3))) ((nth (cutS 32 [] (verS l).1) 3).length - 1) str9 rfl rfl (by first | rfl | omega) (by omega)) ?_
      refine DOps.only (listed' := #[true, true, true, true, true, true, true, true, true, true, false, false, false, false, false]) 9 rfl (by kernel_rfl) rfl rfl ?_
      refine One.st rfl (Yl.call callable42 (.cons rfl (.nil)) (fun w' hw' => l1Read_spec (by first | exact hsub _ | (simp; omega)))) ?_
      refine ⟨(List.Sublist.cons _ (List.Sublist.refl _)), ?_⟩
      refine DOps.take (listed' := #[true, true, true, true, true, true, true, true, true, true, true, false, false, false, false]) 10 rfl (by kernel_rfl) rfl (List.Sublist.cons _ (List.Sublist.refl _)) rfl rfl (Yv.move rfl) ?_
      refine DOps.take (listed' := #[true, true, true, true, true, true, true, true, true, true, true, true, false, false, false]) 11 rfl (by kernel_rfl) rfl (List.Sublist.cons _ (List.Sublist.refl _)) rfl rfl (Yv.extract rfl rfl) ?_
      refine DOps.take (listed' := #[true, true, true, true, true, true, true, true, true, true, true, true, true, false, false]) 12 rfl (by kernel_rfl) rfl (List.Sublist.cons _ (List.Sublist.refl _)) rfl rfl (Yv.extract rfl rfl) ?_
      refine DOps.take (listed' := #[true, true, true, true, true, true, true, true, true, true, true, true, true, true, false]) 13 rfl (by kernel_rfl) rfl (List.Sublist.cons _ (List.Sublist.refl _)) rfl rfl (Yv.fieldAddr fld25_1 rfl) ?_
      refine DOps.only (listed' := #[true, true, true, true, true, true, true, true, true, true, true, true, true, true, true]) 14 rfl (by kernel_rfl) rfl rfl ?_
      refine One.store (i := 0) (off := 1) (vs := [_]) (cs' := [_, _, _, _, _, _]) (H' := [_, _, _, _]) lay3 rfl rfl rfl rfl rfl rfl rfl rfl rfl rfl ?_
      refine ⟨(List.Sublist.cons _ (List.Sublist.refl _)), ?_⟩
      refine DOps.done (by kernel_rfl) ?_
      refine Run.seq ?_
      refine Run.ops ?_
      refine SOps.st rfl rfl (Yv.move rfl).yl ?_
      refine SOps.st rfl rfl (Yv.indexAddr 7 el50 rfl rfl rfl (Rd.row (i := 1) rfl) (by omega)).yl ?_
      refine SOps.st rfl rfl (Yv.loadE lay9 rfl strC_len (Rd.row (i := 1) rfl) (by first | omega | (simp; omega)) rfl).yl ?_
      refine SOps.st rfl rfl (Yl.call callable42 (.cons rfl (.nil)) (fun w' hw' => l1Read_spec (by first | exact hsub _ | (simp; omega)))) ?_
      refine SOps.st rfl rfl (Yv.move rfl).yl ?_
      refine SOps.st rfl rfl (Yv.extract rfl rfl).yl ?_
      refine SOps.st rfl rfl (Yv.extract rfl rfl).yl ?_
      refine SOps.st rfl rfl (Yv.fieldAddr fld25_3 rfl).yl ?_
      refine SOps.one rfl (One.store (i := 0) (off := 3) (vs := [_]) (cs' := [_, _, _, _, _, _]) (H' := [_, _, _, _]) lay3 rfl rfl rfl rfl rfl rfl rfl rfl rfl rfl ?_)
      refine SOps.nil ?_
      refine Run.seq ?_
      refine Run.ops ?_
      refine SOps.st rfl rfl (Yv.move rfl).yl ?_
      refine SOps.st rfl rfl (Yv.indexAddr 9 el50 rfl rfl rfl (Rd.row (i := 1) rfl) (by omega)).yl ?_
      refine SOps.st rfl rfl (Yv.loadE lay9 rfl strC_len (Rd.row (i := 1) rfl) (by first | omega | (simp; omega)) rfl).yl ?_
      refine SOps.st rfl rfl (Yl.call callable42 (.cons rfl (.nil)) (fun w' hw' => l1Read_spec (by first | exact hsub _ | (simp; omega)))) ?_
      refine SOps.st rfl rfl (Yv.move rfl).yl ?_
      refine SOps.st rfl rfl (Yv.extract rfl rfl).yl ?_
      refine SOps.st rfl rfl (Yv.extract rfl rfl).yl ?_
      refine SOps.st rfl rfl (Yv.fieldAddr fld25_4 rfl).yl ?_
      refine SOps.one rfl (One.store (i := 0) (off := 4) (vs := [_]) (cs' := [_, _, _, _, _, _]) (H' := [_, _, _, _]) lay3 rfl rfl rfl rfl rfl rfl rfl rfl rfl rfl ?_)
      refine SOps.nil ?_
      refine Run.seq ?_
      refine Run.ops ?_
      refine SOps.st rfl rfl (Yv.move rfl).yl ?_
      refine SOps.st rfl rfl (Yv.indexAddr 11 el50 rfl rfl rfl (Rd.row (i := 1) rfl) (by omega)).yl ?_
      refine SOps.st rfl rfl (Yv.loadE lay9 rfl strC_len (Rd.row (i := 1) rfl) (by first | omega | (simp; omega)) rfl).yl ?_
      refine SOps.st rfl rfl (Yl.call callable42 (.cons rfl (.nil)) (fun w' hw' => l1Read_spec (by first | exact hsub _ | (simp; omega)))) ?_
      refine SOps.st rfl rfl (Yv.move rfl).yl ?_
      refine SOps.st rfl rfl (Yv.extract rfl rfl).yl ?_
      refine SOps.st rfl rfl (Yv.extract rfl rfl).yl ?_
      refine SOps.st rfl rfl (Yv.fieldAddr fld25_5 rfl).yl ?_
      refine SOps.one rfl (One.store (i := 0) (off := 5) (vs := [_]) (cs' := [_, _, _, _, _, _]) (H' := [_, _, _, _]) lay3 rfl rfl rfl rfl rfl rfl rfl rfl rfl rfl ?_)
      refine SOps.nil ?_
      refine Run.seq ?_
      refine Run.seq ?_
      show Run _ _ _ _ _ _ [.blk _ _ (Report.enc (readM (cutS 32 [] (verS l).1))), _, _, _] _
      refine Run.quiet (by intro h; cases h) ?_
      refine QOps.st rfl rfl (Yv.loadBs (i := 0) lay25 rfl rfl rfl rfl).yl ?_
      refine QOps.st rfl rfl (Yl.call callable24 (.cons rfl (.nil)) (fun w' hw' => l20One_spec)) ?_
      refine QOps.st rfl rfl (Yv.not rfl).yl ?_
      refine QOps.st rfl rfl (Yv.move rfl).yl ?_
      refine' QOps.or [_, _, _, _] _ (.tmp 91) rfl rfl rfl rfl rfl rfl (fun hg3 => ?_) ?_
      rotate_left
      · try replace hg3 := of_decide_eq_false hg3
        have hok : oneR (readM (cutS 32 [] (verS l).1)) = true := by simpa using hg3
        refine QOps.st rfl rfl (Yv.loadBs (i := 0) lay25 rfl rfl rfl rfl).yl ?_
        refine QOps.st rfl rfl (Yl.call callable25 (.cons rfl (.nil)) (fun w' hw' => l20Text_spec hok)) ?_
        refine QOps.st rfl rfl (Yv.move rfl).yl ?_
        refine QOps.st rfl rfl (Yv.strNe (a := (sealT (msgT (readM (cutS 32 [] (verS l).1))))) (b := l) rfl rfl).yl ?_
        exact QOps.nil rfl
      refine QOps.nil ?_
      refine Run.cond rfl (fun hc2 => ?_) (fun hc2 => ?_)
      · try replace hc2 := of_decide_eq_true hc2
        have hz := finalM_no (by simpa using hc2)
        refine Run.seq ?_
        refine Run.ops ?_
        refine SOps.st rfl rfl (Yv.loadBs (i := 2) lay25 rfl rfl rfl rfl).yl ?_
        refine SOps.one rfl (One.store (i := 3) (off := 0) (vs := [_, _, _, _, _, _]) (cs' := [_, _, _, _, _, _]) (H' := [_, _, _, _]) lay25 rfl rfl rfl rfl rfl rfl rfl rfl rfl rfl ?_)
        refine SOps.st rfl rfl (Yv.assign rfl).yl ?_
        refine SOps.nil ?_
        refine Run.ret ?_
        refine retQ.of (.inr rfl) rfl (.cells (i := 3) rfl lay25 rfl rfl (.tmp rfl .nil)) (fun w' hw' => ?_)
        refine ⟨?_, hw'.bel.below⟩
        exact retMB_eq hz
      · try replace hc2 := of_decide_eq_false hc2
        have hz := last_yes (by simpa using hc2)
        refine Run.skip ?_
        refine Run.seq ?_
        refine Run.ops ?_
        refine SOps.st rfl rfl (Yv.loadBs (i := 0) lay25 rfl rfl rfl rfl).yl ?_
        refine SOps.one rfl (One.store (i := 3) (off := 0) (vs := [_, _, _, _, _, _]) (cs' := [_, _, _, _, _, _]) (H' := [_, _, _, _]) lay25 rfl rfl rfl rfl rfl rfl rfl rfl rfl rfl ?_)
        refine SOps.st rfl rfl (Yv.assign rfl).yl ?_
        refine SOps.nil ?_
        refine Run.ret ?_
        refine retQ.of (.inr rfl) rfl (.cells (i := 3) rfl lay25 rfl rfl (.tmp rfl .nil)) (fun w' hw' => ?_)
        refine ⟨?_, hw'.bel.below⟩
        exact retMB_eq hz
end Go.Proofs.YtlpgcbkialcjcaaGreatDoor
