/- Notices: the reference's parse, walked; the law. Conditions: none. -/
import Derived.Test.YtjabeiolgghfdaaGreatDoorZnP
namespace Go.Proofs.YtjabeiolgghfdaaGreatDoor
open Go.RowKit
set_option maxRecDepth 100000
theorem cut_sub {c : UInt8} : ∀ {l acc x : List UInt8}, x ∈ cutS c acc l → x.length ≤ acc.length + l.length
  | [], acc, x, h => by
    simp only [cutS, List.mem_singleton] at h
    rw [h]; simp
  | b :: l, acc, x, h => by
    rw [cutS] at h
    split at h
    · rcases List.mem_cons.1 h with h | h
      · rw [h]; simp
      · have := cut_sub h
        simp at this ⊢
        omega
    · have := cut_sub h
      simp at this ⊢
      omega
theorem sub_len {c : UInt8} {l : List UInt8} {k : Nat} : (nth (cutS c [] l) k).length ≤ l.length := by
  rcases Nat.lt_or_ge k (cutS c [] l).length with h | h
  · have := cut_sub (List.mem_of_getElem? (nth_get h))
    simpa using this
  · have e : nth (cutS c [] l) k = [] := by simp [nth, h]; rfl
    rw [e]; simp
theorem cut_len {c : UInt8} : ∀ {l acc : List UInt8}, (cutS c acc l).length ≤ l.length + 1
  | [], acc => by simp [cutS]
  | b :: l, acc => by
    rw [cutS]
    split
    · have := cut_len (c := c) (l := l) (acc := [])
      simp
      omega
    · have := cut_len (c := c) (l := l) (acc := acc ++ [b])
      simp
      omega
theorem l1SplitC_spec {w : World} {l : List UInt8} (hl : l.length ≤ 1048576) : Calls Tryz.prog 32 #[strV l, .int .u8 32] w (RetRow w 9 1 (cutS 32 [] l).length ((cutS 32 [] l).flatMap strC) (fun v => v)) := by
  rw [← partsOf_cut]
  exact l1Split_spec (b := 32) hl
theorem k_ok {n L : Nat} (h : (decide ((90 : Int) < (L : Int)) || (!decide ((n : Int) - 11 = 3) && !decide ((n : Int) - 11 = 5))) = false) : L ≤ 90 ∧ (n = 14 ∨ n = 16) := by
  simp at h
  omega
theorem all_ok {n L m : Nat} (h : (decide ((90 : Int) < (L : Int)) || (!decide ((n : Int) - 11 = 3) && !decide ((n : Int) - 11 = 5)) || decide ((m : Int) < 2)) = false) : L ≤ 90 ∧ (n = 14 ∨ n = 16) ∧ 2 ≤ m := by
  simp at h
  omega
theorem all_no {l : List UInt8} (h : (decide ((90 : Int) < (l.length : Int)) || (!decide (((cutS 32 [] l).length : Int) - 11 = 3) && !decide (((cutS 32 [] l).length : Int) - 11 = 5)) || decide (((nth (cutS 32 [] l) 1).length : Int) < 2)) = true) : parseS l = (default, false) := by
  unfold parseS
  rw [if_neg]
  rintro ⟨h1, h2, h3, _⟩
  simp at h
  omega
theorem finalS_no {l : List UInt8} {N : Notice} (hN : N = readN (cutS 32 [] l) ((cutS 32 [] l).length - 11)) (hc : (!noticeOk N || !(noteT N == l)) = true) : parseS l = (default, false) := by
  unfold parseS
  rw [if_neg]
  rintro ⟨_, _, _, h4, h5⟩
  rw [← hN] at h4 h5
  rw [h4, h5] at hc
  simp at hc
theorem readN_5 {ws : List (List UInt8)} (h : ws.length = 16) : (⟨(readR ((nth ws 1).take ((nth ws 1).length - 1))).1, idx3 kindW (nth ws 2), (readR (nth ws 7)).1, (readR (nth ws 10)).1, (readR (nth ws 13)).1, (readR (nth ws 15)).1, (readR (nth ws 3)).1⟩ : Notice) = readN ws (ws.length - 11) := by
  rw [h]
  rfl
theorem readN_3 {ws : List (List UInt8)} (h : ws.length = 14) : (⟨(readR ((nth ws 1).take ((nth ws 1).length - 1))).1, idx3 kindW (nth ws 2), (readR (nth ws 5)).1, (readR (nth ws 8)).1, (readR (nth ws 11)).1, (readR (nth ws 13)).1, 0⟩ : Notice) = readN ws (ws.length - 11) := by
  rw [h]
  rfl
theorem sParseNotice_spec {w : World} {l : List UInt8} (hl : l.length ≤ 1048576) : Calls Tryz.prog 10 #[strV l] w (RetB w (.tuple #[.agg (parseS l).1.enc.toArray, .bool (parseS l).2])) := by
  have hsub : ∀ k, (nth (cutS 32 [] l) k).length ≤ 1048576 := fun k => by have := sub_len (c := 32) (l := l) (k := k); omega
  have hs1 := hsub 1
  have hcl := cut_len (c := 32) (l := l) (acc := [])
  have hs2 := hsub 2
  have hs3 := hsub 3
  refine calls_of_run (vs := [_]) (L := [(0, _)]) (n := 114) (F := []) (H := []) Tryz.func10 rfl rfl rfl rfl (HOk.start _) ?_
  refine Run.seq ?_
  refine Run.ops ?_
  refine SOps.one rfl (One.alloc rfl zero25 (fun b1 => ?_))
  refine SOps.st rfl rfl (Yv.assign rfl).yl ?_
  refine SOps.nil ?_
  refine Run.seq ?_
  refine Run.ops ?_
  refine SOps.st rfl rfl (Yv.buildG (pv := []) (cs := [_, _, _, _, _, _, _]) (fun _ => [.int .i64 0, .int .i64 0, .int .i64 0, .int .i64 0, .int .i64 0, .int .i64 0, .int .i64 0]) .nil rfl rfl (by kernel_rfl)).yl ?_
  refine SOps.one rfl (One.alloc rfl zero25 (fun b2 => ?_))
  refine SOps.one rfl (One.store (i := 0) (off := 0) (vs := [_, _, _, _, _, _, _]) (cs' := [_, _, _, _, _, _, _]) (H' := [_, _]) lay25 rfl rfl rfl rfl rfl rfl rfl rfl rfl rfl ?_)
  refine SOps.nil ?_
  refine Run.seq ?_
  refine Run.ops ?_
  refine SOps.st rfl rfl (Yv.move rfl).yl ?_
  refine SOps.one rfl (One.callRow rfl callable32 (.cons rfl (.cons rfl (.nil))) (fun w' hw' => l1SplitC_spec (by omega)) (fun A1 c1 => ?_))
  refine SOps.st rfl rfl (Yv.assign rfl).yl ?_
  refine SOps.nil ?_
  refine Run.seq ?_
  refine Run.quiet (by intro h; cases h) ?_
  refine QOps.st rfl rfl (Yv.move rfl).yl ?_
  refine QOps.st rfl rfl (Yv.lenS el53s rfl).yl ?_
  refine QOps.st rfl rfl (Yv.sub rfl rfl (by omega)).yl ?_
  refine QOps.st rfl rfl (Yv.assign rfl).yl ?_
  refine QOps.nil ?_
  refine Run.seq ?_
  refine Run.seq ?_
  refine Run.quiet (by intro h; cases h) ?_
  refine QOps.st rfl rfl (Yv.move rfl).yl ?_
  refine QOps.st rfl rfl (Yv.strLen (a := l) str9 rfl).yl ?_
  refine QOps.st rfl rfl (Yv.gtr rfl rfl).yl ?_
  refine QOps.st rfl rfl (Yv.move rfl).yl ?_
  refine' QOps.or [_, _, _, _, _, _] _ (.tmp 23) rfl rfl rfl rfl rfl rfl (fun hg1 => ?_) ?_
  rotate_left
  · try replace hg1 := of_decide_eq_false hg1
    refine QOps.st rfl rfl (Yv.move rfl).yl ?_
    refine QOps.st rfl rfl (Yv.neI rfl rfl).yl ?_
    refine QOps.st rfl rfl (Yv.move rfl).yl ?_
    refine' QOps.and [_, _] _ (.tmp 22) rfl rfl rfl rfl rfl rfl (fun hg2 => ?_) ?_
    rotate_left
    · try replace hg2 := of_decide_eq_true hg2
      refine QOps.st rfl rfl (Yv.move rfl).yl ?_
      refine QOps.st rfl rfl (Yv.neI rfl rfl).yl ?_
      exact QOps.nil rfl
    exact QOps.nil rfl
  refine QOps.st rfl rfl (Yv.move rfl).yl ?_
  refine' QOps.or [_, _, _, _, _] _ (.tmp 30) rfl rfl rfl rfl rfl rfl (fun hg3 => ?_) ?_
  rotate_left
  · try replace hg3 := of_decide_eq_false hg3
    have hw := k_ok hg3
    refine QOps.st rfl rfl (Yv.move rfl).yl ?_
    refine QOps.st rfl rfl (Yv.indexAddr 1 el53 rfl rfl rfl (Rd.row (i := 0) rfl) (by omega)).yl ?_
    refine QOps.st rfl rfl (Yv.loadE lay9 rfl strC_len (Rd.row (i := 0) rfl) (by first | omega | (simp; omega)) rfl).yl ?_
    refine QOps.st rfl rfl (Yv.strLen (a := (nth (cutS 32 [] l) (1))) str9 rfl).yl ?_
    refine QOps.st rfl rfl (Yv.lss rfl rfl).yl ?_
    exact QOps.nil rfl
  refine QOps.nil ?_
  refine Run.cond rfl (fun hc1 => ?_) (fun hc1 => ?_)
  · try replace hc1 := of_decide_eq_true hc1
    have hz := all_no (by simpa using hc1)
    refine Run.seq ?_
    refine Run.ops ?_
    refine SOps.st rfl rfl (Yv.loadBs (i := 1) lay25 rfl rfl rfl rfl).yl ?_
    refine SOps.one rfl (One.store (i := 2) (off := 0) (vs := [_, _, _, _, _, _, _]) (cs' := [_, _, _, _, _, _, _]) (H' := [_, _, _]) lay25 rfl rfl rfl rfl rfl rfl rfl rfl rfl rfl ?_)
    refine SOps.st rfl rfl (Yv.assign rfl).yl ?_
    refine SOps.nil ?_
    refine Run.ret ?_
    refine retQ.of (.inr rfl) rfl (.cells (i := 2) rfl lay25 rfl rfl (.tmp rfl .nil)) (fun w' hw' => ?_)
    refine ⟨?_, hw'.bel.below⟩
    exact retNB_eq hz
  · try replace hc1 := of_decide_eq_false hc1
    obtain ⟨hl90, hw, hw2⟩ := all_ok hc1
    refine Run.skip ?_
    refine Run.seq ?_
    refine Run.ops ?_
    refine SOps.one rfl (One.buildSliceG (pv := [(0, _), (1, _), (2, _), (3, _)]) (cs := [_, _, _, _]) (fun l => match l with | [a0_0, a1_0, a2_0, a3_0] => [a0_0, a1_0, a2_0, a3_0] | _ => []) rfl el53 (.cons rfl (.cons rfl (.cons rfl (.cons rfl (.nil))))) rfl rfl (by kernel_rfl) rfl rfl (fun b3 => ?_))
    refine SOps.st rfl rfl (Yv.move rfl).yl ?_
    refine SOps.st rfl rfl (Yv.indexAddr 2 el53 rfl rfl rfl (Rd.row (i := 1) rfl) (by omega)).yl ?_
    refine SOps.st rfl rfl (Yv.loadE lay9 rfl strC_len (Rd.row (i := 1) rfl) (by first | omega | (simp; omega)) rfl).yl ?_
    refine SOps.st rfl rfl (Yl.call callable33 (.cons rfl (.cons rfl (.nil))) (fun w' hw' => l3Index_spec (ls := kindW) ((Rd.row (i := 0) rfl) w' hw'))) ?_
    refine SOps.st rfl rfl (Yv.buildG (pv := [(1, _)]) (cs := [_, _, _, _, _, _, _]) (fun l => match l with | [a0_0] => [.int .i64 0, a0_0, .int .i64 0, .int .i64 0, .int .i64 0, .int .i64 0, .int .i64 0] | _ => []) (.cons rfl (.nil)) rfl rfl (by kernel_rfl)).yl ?_
    refine SOps.one rfl (One.alloc rfl zero25 (fun b4 => ?_))
    refine SOps.one rfl (One.store (i := 0) (off := 0) (vs := [_, _, _, _, _, _, _]) (cs' := [_, _, _, _, _, _, _]) (H' := [_, _, _, _, _]) lay25 rfl rfl rfl rfl rfl rfl rfl rfl rfl rfl ?_)
    refine SOps.nil ?_
    refine Run.seq ?_
    refine Run.draws (fun H => (H).eraseIdx 0) (m := 15) (listed := #[false, false, false, false, false, false, false, false, false, false, false, false, false, false, false]) (by kernel_rfl) rfl rfl ?_
    refine DOps.take (listed' := #[true, false, false, false, false, false, false, false, false, false, false, false, false, false, false]) 0 rfl (by kernel_rfl) rfl (List.Sublist.cons _ (List.Sublist.refl _)) rfl rfl (Yv.move rfl) ?_
    refine DOps.take (listed' := #[true, true, false, false, false, false, false, false, false, false, false, false, false, false, false]) 1 rfl (by kernel_rfl) rfl (List.Sublist.cons _ (List.Sublist.refl _)) rfl rfl (Yv.indexAddr 1 el53 rfl rfl rfl (Rd.row (i := 1) rfl) (by omega)) ?_
    refine DOps.take (listed' := #[true, true, true, false, false, false, false, false, false, false, false, false, false, false, false]) 2 rfl (by kernel_rfl) rfl (List.Sublist.cons _ (List.Sublist.refl _)) rfl rfl (Yv.loadE lay9 rfl strC_len (Rd.row (i := 1) rfl) (by first | omega | (simp; omega)) rfl) ?_
    refine DOps.take (listed' := #[true, true, true, true, false, false, false, false, false, false, false, false, false, false, false]) 3 rfl (by kernel_rfl) rfl (List.Sublist.cons _ (List.Sublist.refl _)) rfl rfl (Yv.move rfl) ?_
    refine DOps.take (listed' := #[true, true, true, true, true, false, false, false, false, false, false, false, false, false, false]) 4 rfl (by kernel_rfl) rfl (List.Sublist.cons _ (List.Sublist.refl _)) rfl rfl (Yv.indexAddr 1 el53 rfl rfl rfl (Rd.row (i := 1) rfl) (by omega)) ?_
    refine DOps.take (listed' := #[true, true, true, true, true, true, false, false, false, false, false, false, false, false, false]) 5 rfl (by kernel_rfl) rfl (List.Sublist.cons _ (List.Sublist.refl _)) rfl rfl (Yv.loadE lay9 rfl strC_len (Rd.row (i := 1) rfl) (by first | omega | (simp; omega)) rfl) ?_
    refine DOps.take (listed' := #[true, true, true, true, true, true, true, false, false, false, false, false, false, false, false]) 6 rfl (by kernel_rfl) rfl (List.Sublist.cons _ (List.Sublist.refl _)) rfl rfl (Yv.strLen (a := (nth (cutS 32 [] l) (1))) str9 rfl) ?_
    refine DOps.take (listed' := #[true, true, true, true, true, true, true, true, false, false, false, false, false, false, false]) 7 rfl (by kernel_rfl) rfl (List.Sublist.cons _ (List.Sublist.refl _)) rfl rfl (Yv.sub rfl rfl (by omega)) ?_
    refine DOps.take (listed' := #[true, true, true, true, true, true, true, true, true, false, false, false, false, false, false]) 8 rfl (by kernel_rfl) rfl (List.Sublist.cons _ (List.Sublist.refl _)) rfl rfl (Yv.strTo (a := (nth (cutS 32 [] l) (1))) ((nth (cutS 32 [] l) 1).length - 1) str9 rfl rfl (by first | rfl | omega) (by omega)) ?_
    refine DOps.only (listed' := #[true, true, true, true, true, true, true, true, true, true, false, false, false, false, false]) 9 rfl (by kernel_rfl) rfl rfl ?_
    refine One.st rfl (Yl.call callable34 (.cons rfl (.nil)) (fun w' hw' => l1Read_spec (by first | exact hsub _ | (simp; omega)))) ?_
    refine ⟨(List.Sublist.cons _ (List.Sublist.refl _)), ?_⟩
    refine DOps.take (listed' := #[true, true, true, true, true, true, true, true, true, true, true, false, false, false, false]) 10 rfl (by kernel_rfl) rfl (List.Sublist.cons _ (List.Sublist.refl _)) rfl rfl (Yv.move rfl) ?_
    refine DOps.take (listed' := #[true, true, true, true, true, true, true, true, true, true, true, true, false, false, false]) 11 rfl (by kernel_rfl) rfl (List.Sublist.cons _ (List.Sublist.refl _)) rfl rfl (Yv.extract rfl rfl) ?_
    refine DOps.take (listed' := #[true, true, true, true, true, true, true, true, true, true, true, true, true, false, false]) 12 rfl (by kernel_rfl) rfl (List.Sublist.cons _ (List.Sublist.refl _)) rfl rfl (Yv.extract rfl rfl) ?_
    refine DOps.take (listed' := #[true, true, true, true, true, true, true, true, true, true, true, true, true, true, false]) 13 rfl (by kernel_rfl) rfl (List.Sublist.cons _ (List.Sublist.refl _)) rfl rfl (Yv.fieldAddr fld25_0 rfl) ?_
    refine DOps.only (listed' := #[true, true, true, true, true, true, true, true, true, true, true, true, true, true, true]) 14 rfl (by kernel_rfl) rfl rfl ?_
    refine One.store (i := 0) (off := 0) (vs := [_]) (cs' := [_, _, _, _, _, _, _]) (H' := [_, _, _, _, _]) lay3 rfl rfl rfl rfl rfl rfl rfl rfl rfl rfl ?_
    refine ⟨(List.Sublist.cons _ (List.Sublist.refl _)), ?_⟩
    refine DOps.done (by kernel_rfl) ?_
    refine Run.seq ?_
    refine Run.seq ?_
    refine Run.quiet (by intro h; cases h) ?_
    refine QOps.st rfl rfl (Yv.move rfl).yl ?_
    refine QOps.st rfl rfl (Yv.eqI rfl rfl).yl ?_
    refine QOps.nil ?_
    refine Run.cond rfl (fun hc2 => ?_) (fun hc2 => ?_)
    · try replace hc2 := of_decide_eq_true hc2
      have h16 : (cutS 32 [] l).length = 16 := by omega
      refine Run.ops ?_
      refine SOps.st rfl rfl (Yv.move rfl).yl ?_
      refine SOps.st rfl rfl (Yv.indexAddr 3 el53 rfl rfl rfl (Rd.row (i := 2) rfl) (by omega)).yl ?_
      refine SOps.st rfl rfl (Yv.loadE lay9 rfl strC_len (Rd.row (i := 2) rfl) (by first | omega | (simp; omega)) rfl).yl ?_
      refine SOps.st rfl rfl (Yl.call callable34 (.cons rfl (.nil)) (fun w' hw' => l1Read_spec (by first | exact hsub _ | (simp; omega)))) ?_
      refine SOps.st rfl rfl (Yv.move rfl).yl ?_
      refine SOps.st rfl rfl (Yv.extract rfl rfl).yl ?_
      refine SOps.st rfl rfl (Yv.extract rfl rfl).yl ?_
      refine SOps.st rfl rfl (Yv.fieldAddr fld25_6 rfl).yl ?_
      refine SOps.one rfl (One.store (i := 0) (off := 6) (vs := [_]) (cs' := [_, _, _, _, _, _, _]) (H' := [_, _, _, _, _]) lay3 rfl rfl rfl rfl rfl rfl rfl rfl rfl rfl ?_)
      refine SOps.nil ?_
      refine Run.seq ?_
      refine Run.ops ?_
      refine SOps.st rfl rfl (Yv.move rfl).yl ?_
      refine SOps.st rfl rfl (Yv.move rfl).yl ?_
      refine SOps.st rfl rfl (Yv.add rfl rfl (by omega)).yl ?_
      refine SOps.st rfl rfl (Yv.indexAddr 7 el53 rfl rfl (by omega) (Rd.row (i := 2) rfl) (by omega)).yl ?_
      refine SOps.st rfl rfl (Yv.loadE lay9 rfl strC_len (Rd.row (i := 2) rfl) (by first | omega | (simp; omega)) rfl).yl ?_
      refine SOps.st rfl rfl (Yl.call callable34 (.cons rfl (.nil)) (fun w' hw' => l1Read_spec (by first | exact hsub _ | (simp; omega)))) ?_
      refine SOps.st rfl rfl (Yv.move rfl).yl ?_
      refine SOps.st rfl rfl (Yv.extract rfl rfl).yl ?_
      refine SOps.st rfl rfl (Yv.extract rfl rfl).yl ?_
      refine SOps.st rfl rfl (Yv.fieldAddr fld25_2 rfl).yl ?_
      refine SOps.one rfl (One.store (i := 0) (off := 2) (vs := [_]) (cs' := [_, _, _, _, _, _, _]) (H' := [_, _, _, _, _]) lay3 rfl rfl rfl rfl rfl rfl rfl rfl rfl rfl ?_)
      refine SOps.nil ?_
      refine Run.seq ?_
      refine Run.ops ?_
      refine SOps.st rfl rfl (Yv.move rfl).yl ?_
      refine SOps.st rfl rfl (Yv.move rfl).yl ?_
      refine SOps.st rfl rfl (Yv.add rfl rfl (by omega)).yl ?_
      refine SOps.st rfl rfl (Yv.indexAddr 10 el53 rfl rfl (by omega) (Rd.row (i := 2) rfl) (by omega)).yl ?_
      refine SOps.st rfl rfl (Yv.loadE lay9 rfl strC_len (Rd.row (i := 2) rfl) (by first | omega | (simp; omega)) rfl).yl ?_
      refine SOps.st rfl rfl (Yl.call callable34 (.cons rfl (.nil)) (fun w' hw' => l1Read_spec (by first | exact hsub _ | (simp; omega)))) ?_
      refine SOps.st rfl rfl (Yv.move rfl).yl ?_
      refine SOps.st rfl rfl (Yv.extract rfl rfl).yl ?_
      refine SOps.st rfl rfl (Yv.extract rfl rfl).yl ?_
      refine SOps.st rfl rfl (Yv.fieldAddr fld25_3 rfl).yl ?_
      refine SOps.one rfl (One.store (i := 0) (off := 3) (vs := [_]) (cs' := [_, _, _, _, _, _, _]) (H' := [_, _, _, _, _]) lay3 rfl rfl rfl rfl rfl rfl rfl rfl rfl rfl ?_)
      refine SOps.nil ?_
      refine Run.seq ?_
      refine Run.ops ?_
      refine SOps.st rfl rfl (Yv.move rfl).yl ?_
      refine SOps.st rfl rfl (Yv.move rfl).yl ?_
      refine SOps.st rfl rfl (Yv.add rfl rfl (by omega)).yl ?_
      refine SOps.st rfl rfl (Yv.indexAddr 13 el53 rfl rfl (by omega) (Rd.row (i := 2) rfl) (by omega)).yl ?_
      refine SOps.st rfl rfl (Yv.loadE lay9 rfl strC_len (Rd.row (i := 2) rfl) (by first | omega | (simp; omega)) rfl).yl ?_
      refine SOps.st rfl rfl (Yl.call callable34 (.cons rfl (.nil)) (fun w' hw' => l1Read_spec (by first | exact hsub _ | (simp; omega)))) ?_
      refine SOps.st rfl rfl (Yv.move rfl).yl ?_
      refine SOps.st rfl rfl (Yv.extract rfl rfl).yl ?_
      refine SOps.st rfl rfl (Yv.extract rfl rfl).yl ?_
      refine SOps.st rfl rfl (Yv.fieldAddr fld25_4 rfl).yl ?_
      refine SOps.one rfl (One.store (i := 0) (off := 4) (vs := [_]) (cs' := [_, _, _, _, _, _, _]) (H' := [_, _, _, _, _]) lay3 rfl rfl rfl rfl rfl rfl rfl rfl rfl rfl ?_)
      refine SOps.nil ?_
      refine Run.seq ?_
      refine Run.ops ?_
      refine SOps.st rfl rfl (Yv.move rfl).yl ?_
      refine SOps.st rfl rfl (Yv.move rfl).yl ?_
      refine SOps.st rfl rfl (Yv.add rfl rfl (by omega)).yl ?_
      refine SOps.st rfl rfl (Yv.indexAddr 15 el53 rfl rfl (by omega) (Rd.row (i := 2) rfl) (by omega)).yl ?_
      refine SOps.st rfl rfl (Yv.loadE lay9 rfl strC_len (Rd.row (i := 2) rfl) (by first | omega | (simp; omega)) rfl).yl ?_
      refine SOps.st rfl rfl (Yl.call callable34 (.cons rfl (.nil)) (fun w' hw' => l1Read_spec (by first | exact hsub _ | (simp; omega)))) ?_
      refine SOps.st rfl rfl (Yv.move rfl).yl ?_
      refine SOps.st rfl rfl (Yv.extract rfl rfl).yl ?_
      refine SOps.st rfl rfl (Yv.extract rfl rfl).yl ?_
      refine SOps.st rfl rfl (Yv.fieldAddr fld25_5 rfl).yl ?_
      refine SOps.one rfl (One.store (i := 0) (off := 5) (vs := [_]) (cs' := [_, _, _, _, _, _, _]) (H' := [_, _, _, _, _]) lay3 rfl rfl rfl rfl rfl rfl rfl rfl rfl rfl ?_)
      refine SOps.nil ?_
      refine Run.seq ?_
      refine Run.seq ?_
      show Run _ _ _ _ _ _ [.blk _ _ (Notice.enc (⟨(readR ((nth (cutS 32 [] l) 1).take ((nth (cutS 32 [] l) 1).length - 1))).1, idx3 kindW (nth (cutS 32 [] l) 2), (readR (nth (cutS 32 [] l) 7)).1, (readR (nth (cutS 32 [] l) 10)).1, (readR (nth (cutS 32 [] l) 13)).1, (readR (nth (cutS 32 [] l) 15)).1, (readR (nth (cutS 32 [] l) 3)).1⟩ : Notice)), _, _, _, _] _
      refine Run.quiet (by intro h; cases h) ?_
      refine QOps.st rfl rfl (Yv.loadBs (i := 0) lay25 rfl rfl rfl rfl).yl ?_
      refine QOps.st rfl rfl (Yl.call callable24 (.cons rfl (.nil)) (fun w' hw' => l22One_spec)) ?_
      refine QOps.st rfl rfl (Yv.not rfl).yl ?_
      refine QOps.st rfl rfl (Yv.move rfl).yl ?_
      refine' QOps.or [_, _, _, _] _ (.tmp 110) rfl rfl rfl rfl rfl rfl (fun hg4 => ?_) ?_
      rotate_left
      · try replace hg4 := of_decide_eq_false hg4
        have hok : noticeOk (⟨(readR ((nth (cutS 32 [] l) 1).take ((nth (cutS 32 [] l) 1).length - 1))).1, idx3 kindW (nth (cutS 32 [] l) 2), (readR (nth (cutS 32 [] l) 7)).1, (readR (nth (cutS 32 [] l) 10)).1, (readR (nth (cutS 32 [] l) 13)).1, (readR (nth (cutS 32 [] l) 15)).1, (readR (nth (cutS 32 [] l) 3)).1⟩ : Notice) = true := by simpa using hg4
        refine QOps.st rfl rfl (Yv.loadBs (i := 0) lay25 rfl rfl rfl rfl).yl ?_
        refine QOps.st rfl rfl (Yl.call callable25 (.cons rfl (.nil)) (fun w' hw' => l22Text_spec hok)) ?_
        refine QOps.st rfl rfl (Yv.move rfl).yl ?_
        refine QOps.st rfl rfl (Yv.strNe (a := (noteT (⟨(readR ((nth (cutS 32 [] l) 1).take ((nth (cutS 32 [] l) 1).length - 1))).1, idx3 kindW (nth (cutS 32 [] l) 2), (readR (nth (cutS 32 [] l) 7)).1, (readR (nth (cutS 32 [] l) 10)).1, (readR (nth (cutS 32 [] l) 13)).1, (readR (nth (cutS 32 [] l) 15)).1, (readR (nth (cutS 32 [] l) 3)).1⟩ : Notice))) (b := l) rfl rfl).yl ?_
        exact QOps.nil rfl
      refine QOps.nil ?_
      refine Run.cond rfl (fun hc3 => ?_) (fun hc3 => ?_)
      · try replace hc3 := of_decide_eq_true hc3
        have hz := finalS_no (readN_5 h16) (by simpa using hc3)
        refine Run.seq ?_
        refine Run.ops ?_
        refine SOps.st rfl rfl (Yv.loadBs (i := 3) lay25 rfl rfl rfl rfl).yl ?_
        refine SOps.one rfl (One.store (i := 4) (off := 0) (vs := [_, _, _, _, _, _, _]) (cs' := [_, _, _, _, _, _, _]) (H' := [_, _, _, _, _]) lay25 rfl rfl rfl rfl rfl rfl rfl rfl rfl rfl ?_)
        refine SOps.st rfl rfl (Yv.assign rfl).yl ?_
        refine SOps.nil ?_
        refine Run.ret ?_
        refine retQ.of (.inr rfl) rfl (.cells (i := 4) rfl lay25 rfl rfl (.tmp rfl .nil)) (fun w' hw' => ?_)
        refine ⟨?_, hw'.bel.below⟩
        exact retNB_eq hz
      · try replace hc3 := of_decide_eq_false hc3
        have hz := final_yes (by simpa using hc3)
        refine Run.skip ?_
        refine Run.seq ?_
        refine Run.ops ?_
        refine SOps.st rfl rfl (Yv.loadBs (i := 0) lay25 rfl rfl rfl rfl).yl ?_
        refine SOps.one rfl (One.store (i := 4) (off := 0) (vs := [_, _, _, _, _, _, _]) (cs' := [_, _, _, _, _, _, _]) (H' := [_, _, _, _, _]) lay25 rfl rfl rfl rfl rfl rfl rfl rfl rfl rfl ?_)
        refine SOps.st rfl rfl (Yv.assign rfl).yl ?_
        refine SOps.nil ?_
        refine Run.ret ?_
        refine retQ.of (.inr rfl) rfl (.cells (i := 4) rfl lay25 rfl rfl (.tmp rfl .nil)) (fun w' hw' => ?_)
        refine ⟨?_, hw'.bel.below⟩
        exact retNB_eq hz
    · try replace hc2 := of_decide_eq_false hc2
      have h14 : (cutS 32 [] l).length = 14 := by omega
      refine Run.skip ?_
      refine Run.seq ?_
      refine Run.ops ?_
      refine SOps.st rfl rfl (Yv.move rfl).yl ?_
      refine SOps.st rfl rfl (Yv.move rfl).yl ?_
      refine SOps.st rfl rfl (Yv.add rfl rfl (by omega)).yl ?_
      refine SOps.st rfl rfl (Yv.indexAddr 5 el53 rfl rfl (by omega) (Rd.row (i := 2) rfl) (by omega)).yl ?_
      refine SOps.st rfl rfl (Yv.loadE lay9 rfl strC_len (Rd.row (i := 2) rfl) (by first | omega | (simp; omega)) rfl).yl ?_
      refine SOps.st rfl rfl (Yl.call callable34 (.cons rfl (.nil)) (fun w' hw' => l1Read_spec (by first | exact hsub _ | (simp; omega)))) ?_
      refine SOps.st rfl rfl (Yv.move rfl).yl ?_
      refine SOps.st rfl rfl (Yv.extract rfl rfl).yl ?_
      refine SOps.st rfl rfl (Yv.extract rfl rfl).yl ?_
      refine SOps.st rfl rfl (Yv.fieldAddr fld25_2 rfl).yl ?_
      refine SOps.one rfl (One.store (i := 0) (off := 2) (vs := [_]) (cs' := [_, _, _, _, _, _, _]) (H' := [_, _, _, _, _]) lay3 rfl rfl rfl rfl rfl rfl rfl rfl rfl rfl ?_)
      refine SOps.nil ?_
      refine Run.seq ?_
      refine Run.ops ?_
      refine SOps.st rfl rfl (Yv.move rfl).yl ?_
      refine SOps.st rfl rfl (Yv.move rfl).yl ?_
      refine SOps.st rfl rfl (Yv.add rfl rfl (by omega)).yl ?_
      refine SOps.st rfl rfl (Yv.indexAddr 8 el53 rfl rfl (by omega) (Rd.row (i := 2) rfl) (by omega)).yl ?_
      refine SOps.st rfl rfl (Yv.loadE lay9 rfl strC_len (Rd.row (i := 2) rfl) (by first | omega | (simp; omega)) rfl).yl ?_
      refine SOps.st rfl rfl (Yl.call callable34 (.cons rfl (.nil)) (fun w' hw' => l1Read_spec (by first | exact hsub _ | (simp; omega)))) ?_
      refine SOps.st rfl rfl (Yv.move rfl).yl ?_
      refine SOps.st rfl rfl (Yv.extract rfl rfl).yl ?_
      refine SOps.st rfl rfl (Yv.extract rfl rfl).yl ?_
      refine SOps.st rfl rfl (Yv.fieldAddr fld25_3 rfl).yl ?_
      refine SOps.one rfl (One.store (i := 0) (off := 3) (vs := [_]) (cs' := [_, _, _, _, _, _, _]) (H' := [_, _, _, _, _]) lay3 rfl rfl rfl rfl rfl rfl rfl rfl rfl rfl ?_)
      refine SOps.nil ?_
      refine Run.seq ?_
      refine Run.ops ?_
      refine SOps.st rfl rfl (Yv.move rfl).yl ?_
      refine SOps.st rfl rfl (Yv.move rfl).yl ?_
      refine SOps.st rfl rfl (Yv.add rfl rfl (by omega)).yl ?_
      refine SOps.st rfl rfl (Yv.indexAddr 11 el53 rfl rfl (by omega) (Rd.row (i := 2) rfl) (by omega)).yl ?_
      refine SOps.st rfl rfl (Yv.loadE lay9 rfl strC_len (Rd.row (i := 2) rfl) (by first | omega | (simp; omega)) rfl).yl ?_
      refine SOps.st rfl rfl (Yl.call callable34 (.cons rfl (.nil)) (fun w' hw' => l1Read_spec (by first | exact hsub _ | (simp; omega)))) ?_
      refine SOps.st rfl rfl (Yv.move rfl).yl ?_
      refine SOps.st rfl rfl (Yv.extract rfl rfl).yl ?_
      refine SOps.st rfl rfl (Yv.extract rfl rfl).yl ?_
      refine SOps.st rfl rfl (Yv.fieldAddr fld25_4 rfl).yl ?_
      refine SOps.one rfl (One.store (i := 0) (off := 4) (vs := [_]) (cs' := [_, _, _, _, _, _, _]) (H' := [_, _, _, _, _]) lay3 rfl rfl rfl rfl rfl rfl rfl rfl rfl rfl ?_)
      refine SOps.nil ?_
      refine Run.seq ?_
      refine Run.ops ?_
      refine SOps.st rfl rfl (Yv.move rfl).yl ?_
      refine SOps.st rfl rfl (Yv.move rfl).yl ?_
      refine SOps.st rfl rfl (Yv.add rfl rfl (by omega)).yl ?_
      refine SOps.st rfl rfl (Yv.indexAddr 13 el53 rfl rfl (by omega) (Rd.row (i := 2) rfl) (by omega)).yl ?_
      refine SOps.st rfl rfl (Yv.loadE lay9 rfl strC_len (Rd.row (i := 2) rfl) (by first | omega | (simp; omega)) rfl).yl ?_
      refine SOps.st rfl rfl (Yl.call callable34 (.cons rfl (.nil)) (fun w' hw' => l1Read_spec (by first | exact hsub _ | (simp; omega)))) ?_
      refine SOps.st rfl rfl (Yv.move rfl).yl ?_
      refine SOps.st rfl rfl (Yv.extract rfl rfl).yl ?_
      refine SOps.st rfl rfl (Yv.extract rfl rfl).yl ?_
      refine SOps.st rfl rfl (Yv.fieldAddr fld25_5 rfl).yl ?_
      refine SOps.one rfl (One.store (i := 0) (off := 5) (vs := [_]) (cs' := [_, _, _, _, _, _, _]) (H' := [_, _, _, _, _]) lay3 rfl rfl rfl rfl rfl rfl rfl rfl rfl rfl ?_)
      refine SOps.nil ?_
      refine Run.seq ?_
      refine Run.seq ?_
      show Run _ _ _ _ _ _ [.blk _ _ (Notice.enc (⟨(readR ((nth (cutS 32 [] l) 1).take ((nth (cutS 32 [] l) 1).length - 1))).1, idx3 kindW (nth (cutS 32 [] l) 2), (readR (nth (cutS 32 [] l) 5)).1, (readR (nth (cutS 32 [] l) 8)).1, (readR (nth (cutS 32 [] l) 11)).1, (readR (nth (cutS 32 [] l) 13)).1, 0⟩ : Notice)), _, _, _, _] _
      refine Run.quiet (by intro h; cases h) ?_
      refine QOps.st rfl rfl (Yv.loadBs (i := 0) lay25 rfl rfl rfl rfl).yl ?_
      refine QOps.st rfl rfl (Yl.call callable24 (.cons rfl (.nil)) (fun w' hw' => l22One_spec)) ?_
      refine QOps.st rfl rfl (Yv.not rfl).yl ?_
      refine QOps.st rfl rfl (Yv.move rfl).yl ?_
      refine' QOps.or [_, _, _, _] _ (.tmp 110) rfl rfl rfl rfl rfl rfl (fun hg5 => ?_) ?_
      rotate_left
      · try replace hg5 := of_decide_eq_false hg5
        have hok : noticeOk (⟨(readR ((nth (cutS 32 [] l) 1).take ((nth (cutS 32 [] l) 1).length - 1))).1, idx3 kindW (nth (cutS 32 [] l) 2), (readR (nth (cutS 32 [] l) 5)).1, (readR (nth (cutS 32 [] l) 8)).1, (readR (nth (cutS 32 [] l) 11)).1, (readR (nth (cutS 32 [] l) 13)).1, 0⟩ : Notice) = true := by simpa using hg5
        refine QOps.st rfl rfl (Yv.loadBs (i := 0) lay25 rfl rfl rfl rfl).yl ?_
        refine QOps.st rfl rfl (Yl.call callable25 (.cons rfl (.nil)) (fun w' hw' => l22Text_spec hok)) ?_
        refine QOps.st rfl rfl (Yv.move rfl).yl ?_
        refine QOps.st rfl rfl (Yv.strNe (a := (noteT (⟨(readR ((nth (cutS 32 [] l) 1).take ((nth (cutS 32 [] l) 1).length - 1))).1, idx3 kindW (nth (cutS 32 [] l) 2), (readR (nth (cutS 32 [] l) 5)).1, (readR (nth (cutS 32 [] l) 8)).1, (readR (nth (cutS 32 [] l) 11)).1, (readR (nth (cutS 32 [] l) 13)).1, 0⟩ : Notice))) (b := l) rfl rfl).yl ?_
        exact QOps.nil rfl
      refine QOps.nil ?_
      refine Run.cond rfl (fun hc4 => ?_) (fun hc4 => ?_)
      · try replace hc4 := of_decide_eq_true hc4
        have hz := finalS_no (readN_3 h14) (by simpa using hc4)
        refine Run.seq ?_
        refine Run.ops ?_
        refine SOps.st rfl rfl (Yv.loadBs (i := 3) lay25 rfl rfl rfl rfl).yl ?_
        refine SOps.one rfl (One.store (i := 4) (off := 0) (vs := [_, _, _, _, _, _, _]) (cs' := [_, _, _, _, _, _, _]) (H' := [_, _, _, _, _]) lay25 rfl rfl rfl rfl rfl rfl rfl rfl rfl rfl ?_)
        refine SOps.st rfl rfl (Yv.assign rfl).yl ?_
        refine SOps.nil ?_
        refine Run.ret ?_
        refine retQ.of (.inr rfl) rfl (.cells (i := 4) rfl lay25 rfl rfl (.tmp rfl .nil)) (fun w' hw' => ?_)
        refine ⟨?_, hw'.bel.below⟩
        exact retNB_eq hz
      · try replace hc4 := of_decide_eq_false hc4
        have hz := final_yes (by simpa using hc4)
        refine Run.skip ?_
        refine Run.seq ?_
        refine Run.ops ?_
        refine SOps.st rfl rfl (Yv.loadBs (i := 0) lay25 rfl rfl rfl rfl).yl ?_
        refine SOps.one rfl (One.store (i := 4) (off := 0) (vs := [_, _, _, _, _, _, _]) (cs' := [_, _, _, _, _, _, _]) (H' := [_, _, _, _, _]) lay25 rfl rfl rfl rfl rfl rfl rfl rfl rfl rfl ?_)
        refine SOps.st rfl rfl (Yv.assign rfl).yl ?_
        refine SOps.nil ?_
        refine Run.ret ?_
        refine retQ.of (.inr rfl) rfl (.cells (i := 4) rfl lay25 rfl rfl (.tmp rfl .nil)) (fun w' hw' => ?_)
        refine ⟨?_, hw'.bel.below⟩
        exact retNB_eq hz
end Go.Proofs.YtjabeiolgghfdaaGreatDoor
