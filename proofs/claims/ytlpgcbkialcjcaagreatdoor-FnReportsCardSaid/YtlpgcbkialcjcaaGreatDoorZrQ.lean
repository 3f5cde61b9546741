/- Messages: the program's own parse, walked. Conditions: none. -/
import Derived.Test.YtlpgcbkialcjcaaGreatDoorZrP
import Derived.Test.YtlpgcbkialcjcaaGreatDoorJn
namespace Go.Proofs.YtlpgcbkialcjcaaGreatDoor
open Go.RowKit
set_option maxRecDepth 100000
theorem Cut_spec {w : World} {l : List UInt8} (hd : DoorW w) (hl : l.length ≤ 1048576) : Calls Tryz.prog 58 #[strV l, strV [35]] w (RetB w (.tuple #[strV (Lib.cut l [35]).1, strV (Lib.cut l [35]).2.1, .bool (Lib.cut l [35]).2.2])) := by
  obtain ⟨m, hm⟩ := hd.max
  refine (Tryz.strings_Cut ⟨l.toArray⟩ ⟨[35].toArray⟩ m w (by rw [mk_size]; omega) hm).mono fun e w' ⟨he, n, hw⟩ => ⟨he, ?_⟩
  rw [hw]
  exact ⟨rfl, rfl, rfl, Nat.le_refl _, fun _ _ => rfl⟩
theorem or_len {n : Nat} {b : Bool} : (decide ((4000 : Int) < (n : Int)) || b) = true ↔ 4000 < n ∨ b = true := by
  rw [Bool.or_eq_true, decide_eq_true_eq]
  constructor
  · rintro (h | h)
    · exact .inl (by omega)
    · exact .inr h
  · rintro (h | h)
    · exact .inl (by omega)
    · exact .inr h
theorem AppC_spec {w : World} {l : List UInt8} (htab : Tab10 w) (hl : l.length ≤ 1048576) : Calls Tryz.prog 53 #[strV l] w (RetB w (.tuple #[strV (appC l).1, .bool (appC l).2])) := by
  have hs0 := sum_in (l := l)
  have hsl := dec_len (n := sumOf l) (by omega) (by omega)
  refine calls_of_run (vs := [_]) (L := [(0, _)]) (n := 22) (F := []) (H := []) Tryz.func53 rfl rfl rfl rfl (HOk.start _) ?_
  refine Run.seq ?_
  refine Run.quiet (by intro h; cases h) ?_
  refine QOps.st rfl rfl (Yv.assign rfl).yl ?_
  refine QOps.st rfl rfl (Yv.assign rfl).yl ?_
  refine QOps.nil ?_
  refine Run.seq ?_
  refine Run.seq ?_
  refine Run.quiet (by intro h; cases h) ?_
  refine QOps.st rfl rfl (Yv.move rfl).yl ?_
  refine QOps.st rfl rfl (Yv.strLen (a := l) str9 rfl).yl ?_
  refine QOps.st rfl rfl (Yv.gtr rfl rfl).yl ?_
  refine QOps.st rfl rfl (Yv.move rfl).yl ?_
  refine' QOps.or [_, _] _ (.tmp 10) rfl rfl rfl rfl rfl rfl (fun hg1 => ?_) ?_
  rotate_left
  · try replace hg1 := of_decide_eq_false hg1
    refine QOps.st rfl rfl (Yv.move rfl).yl ?_
    refine QOps.st rfl rfl (Yl.call callable76 (.cons rfl (.cons rfl (.nil))) (fun w' hw' => contains_spec)) ?_
    exact QOps.nil rfl
  refine QOps.nil ?_
  refine Run.cond rfl (fun hc1 => ?_) (fun hc1 => ?_)
  · try replace hc1 := of_decide_eq_true hc1
    have hc : 4000 < l.length ∨ l.contains 35 = true := or_len.1 hc1
    have hz : appC l = ([], false) := by unfold appC; rw [if_pos hc]
    refine Run.seq ?_
    refine Run.quiet (by intro h; cases h) ?_
    refine QOps.st rfl rfl (Yv.assign rfl).yl ?_
    refine QOps.st rfl rfl (Yv.assign rfl).yl ?_
    refine QOps.nil ?_
    refine Run.ret ?_
    refine retQ.of (.inr rfl) rfl (.tmp rfl (.tmp rfl .nil)) (fun w' hw' => ?_)
    refine ⟨?_, hw'.bel.below⟩
    exact retSB_eq hz
  · try replace hc1 := of_decide_eq_false hc1
    have hc : ¬ (4000 < l.length ∨ l.contains 35 = true) := fun h => by have h9 := or_len.2 h; rw [hc1] at h9; cases h9
    have hl4 : l.length ≤ 4000 := by omega
    refine Run.skip ?_
    refine Run.seq ?_
    refine Run.quiet (by intro h; cases h) ?_
    refine QOps.st rfl rfl (Yv.move rfl).yl ?_
    refine QOps.st rfl rfl (Yv.strAdd (a := l) (b := [35]) rfl rfl (by simp only [List.length_append, List.length_cons, List.length_nil]; omega)).yl ?_
    refine QOps.st rfl rfl (Yv.move rfl).yl ?_
    refine QOps.st rfl rfl (Yl.call callable77 (.cons rfl (.nil)) (fun w' hw' => checksum_spec (by omega))) ?_
    refine QOps.st rfl rfl (Yl.call callable52 (.cons rfl (.nil)) (fun w' hw' => itoa_spec (tab_at htab hw') (by omega) (by omega))) ?_
    refine QOps.st rfl rfl (Yv.strAdd (a := (l ++ [35])) (b := (dec ((sumOf l)))) rfl rfl (by simp only [List.length_append, List.length_cons, List.length_nil]; omega)).yl ?_
    refine QOps.st rfl rfl (Yv.assign rfl).yl ?_
    refine QOps.nil ?_
    refine Run.seq ?_
    refine Run.seq ?_
    refine Run.quiet (by intro h; cases h) ?_
    refine QOps.st rfl rfl (Yv.move rfl).yl ?_
    refine QOps.st rfl rfl (Yv.strLen (a := ((l ++ [35]) ++ (dec ((sumOf l))))) str9 rfl).yl ?_
    refine QOps.st rfl rfl (Yv.gtr rfl rfl).yl ?_
    refine QOps.nil ?_
    refine Run.cond rfl (fun hc2 => ?_) (fun hc2 => ?_)
    · try replace hc2 := of_decide_eq_true hc2
      have hz : appC l = ([], false) := by unfold appC; rw [if_neg hc, if_pos (show 4000 < (sealT l).length by show 4000 < (l ++ [35] ++ dec (sumOf l)).length; omega)]
      refine Run.seq ?_
      refine Run.quiet (by intro h; cases h) ?_
      refine QOps.st rfl rfl (Yv.assign rfl).yl ?_
      refine QOps.st rfl rfl (Yv.assign rfl).yl ?_
      refine QOps.nil ?_
      refine Run.ret ?_
      refine retQ.of (.inr rfl) rfl (.tmp rfl (.tmp rfl .nil)) (fun w' hw' => ?_)
      refine ⟨?_, hw'.bel.below⟩
      exact retSB_eq hz
    · try replace hc2 := of_decide_eq_false hc2
      have hz : appC l = (sealT l, true) := by unfold appC; rw [if_neg hc, if_neg (show ¬ 4000 < (sealT l).length by show ¬ 4000 < (l ++ [35] ++ dec (sumOf l)).length; omega)]
      refine Run.skip ?_
      refine Run.seq ?_
      refine Run.quiet (by intro h; cases h) ?_
      refine QOps.st rfl rfl (Yv.move rfl).yl ?_
      refine QOps.st rfl rfl (Yv.assign rfl).yl ?_
      refine QOps.st rfl rfl (Yv.assign rfl).yl ?_
      refine QOps.nil ?_
      refine Run.ret ?_
      refine retQ.of (.inr rfl) rfl (.tmp rfl (.tmp rfl .nil)) (fun w' hw' => ?_)
      refine ⟨?_, hw'.bel.below⟩
      exact retSB_eq hz
theorem Verify_spec {w : World} {l : List UInt8} (hd : DoorW w) (hl : l.length ≤ 1048576) : Calls Tryz.prog 29 #[strV l] w (RetB w (.tuple #[strV (verI l).1, .bool (verI l).2])) := by
  have htab := hd.tab
  have hcl := cutlib_len (s := l) (sep := [35])
  refine calls_of_run (vs := [_]) (L := [(0, _)]) (n := 30) (F := []) (H := []) Tryz.func29 rfl rfl rfl rfl (HOk.start _) ?_
  refine Run.seq ?_
  refine Run.quiet (by intro h; cases h) ?_
  refine QOps.st rfl rfl (Yv.assign rfl).yl ?_
  refine QOps.st rfl rfl (Yv.assign rfl).yl ?_
  refine QOps.nil ?_
  refine Run.seq ?_
  refine Run.quiet (by intro h; cases h) ?_
  refine QOps.st rfl rfl (Yv.move rfl).yl ?_
  refine QOps.st rfl rfl (Yl.call callable58 (.cons rfl (.cons rfl (.nil))) (fun w' hw' => Cut_spec (hd.at hw') (by omega))) ?_
  refine QOps.st rfl rfl (Yv.move rfl).yl ?_
  refine QOps.st rfl rfl (Yv.extract rfl rfl).yl ?_
  refine QOps.st rfl rfl (Yv.extract rfl rfl).yl ?_
  refine QOps.st rfl rfl (Yv.extract rfl rfl).yl ?_
  refine QOps.st rfl rfl (Yv.assign rfl).yl ?_
  refine QOps.st rfl rfl (Yv.assign rfl).yl ?_
  refine QOps.st rfl rfl (Yv.assign rfl).yl ?_
  refine QOps.nil ?_
  refine Run.seq ?_
  refine Run.seq ?_
  refine Run.quiet (by intro h; cases h) ?_
  refine QOps.st rfl rfl (Yv.move rfl).yl ?_
  refine QOps.st rfl rfl (Yv.not rfl).yl ?_
  refine QOps.nil ?_
  refine Run.cond rfl (fun hc1 => ?_) (fun hc1 => ?_)
  · try replace hc1 := of_decide_eq_true hc1
    have hf : ¬ (Lib.cut l [35]).2.2 = true := by simpa using hc1
    have hz : verI l = ([], false) := by unfold verI; rw [if_neg hf]
    refine Run.seq ?_
    refine Run.quiet (by intro h; cases h) ?_
    refine QOps.st rfl rfl (Yv.assign rfl).yl ?_
    refine QOps.st rfl rfl (Yv.assign rfl).yl ?_
    refine QOps.nil ?_
    refine Run.ret ?_
    refine retQ.of (.inr rfl) rfl (.tmp rfl (.tmp rfl .nil)) (fun w' hw' => ?_)
    refine ⟨?_, hw'.bel.below⟩
    exact retSB_eq hz
  · try replace hc1 := of_decide_eq_false hc1
    have hf : (Lib.cut l [35]).2.2 = true := by simpa using hc1
    refine Run.skip ?_
    refine Run.seq ?_
    refine Run.seq ?_
    refine Run.quiet (by intro h; cases h) ?_
    refine QOps.st rfl rfl (Yv.move rfl).yl ?_
    refine QOps.st rfl rfl (Yl.call callable53 (.cons rfl (.nil)) (fun w' hw' => AppC_spec (tab_at htab hw') (by omega))) ?_
    refine QOps.st rfl rfl (Yv.move rfl).yl ?_
    refine QOps.st rfl rfl (Yv.extract rfl rfl).yl ?_
    refine QOps.st rfl rfl (Yv.extract rfl rfl).yl ?_
    refine QOps.st rfl rfl (Yv.assign rfl).yl ?_
    refine QOps.st rfl rfl (Yv.assign rfl).yl ?_
    refine QOps.nil ?_
    refine Run.seq ?_
    refine Run.quiet (by intro h; cases h) ?_
    refine QOps.st rfl rfl (Yv.move rfl).yl ?_
    refine QOps.st rfl rfl (Yv.not rfl).yl ?_
    refine QOps.st rfl rfl (Yv.move rfl).yl ?_
    refine' QOps.or [_, _, _] _ (.tmp 27) rfl rfl rfl rfl rfl rfl (fun hg1 => ?_) ?_
    rotate_left
    · try replace hg1 := of_decide_eq_false hg1
      refine QOps.st rfl rfl (Yv.move rfl).yl ?_
      refine QOps.st rfl rfl (Yv.move rfl).yl ?_
      refine QOps.st rfl rfl (Yv.strNe (a := (appC (Lib.cut l [35]).1).1) (b := l) rfl rfl).yl ?_
      exact QOps.nil rfl
    refine QOps.nil ?_
    refine Run.cond rfl (fun hc2 => ?_) (fun hc2 => ?_)
    · try replace hc2 := of_decide_eq_true hc2
      have hg : ¬ ((appC (Lib.cut l [35]).1).2 = true ∧ (appC (Lib.cut l [35]).1).1 = l) := fun h => by rw [h.1, h.2] at hc2; simp at hc2
      have hz : verI l = ([], false) := by unfold verI; rw [if_pos hf, if_neg hg]
      refine Run.seq ?_
      refine Run.quiet (by intro h; cases h) ?_
      refine QOps.st rfl rfl (Yv.assign rfl).yl ?_
      refine QOps.st rfl rfl (Yv.assign rfl).yl ?_
      refine QOps.nil ?_
      refine Run.ret ?_
      refine retQ.of (.inr rfl) rfl (.tmp rfl (.tmp rfl .nil)) (fun w' hw' => ?_)
      refine ⟨?_, hw'.bel.below⟩
      exact retSB_eq hz
    · try replace hc2 := of_decide_eq_false hc2
      have hg : (appC (Lib.cut l [35]).1).2 = true ∧ (appC (Lib.cut l [35]).1).1 = l := by simpa using hc2
      have hz : verI l = ((Lib.cut l [35]).1, true) := by unfold verI; rw [if_pos hf, if_pos hg]
      refine Run.skip ?_
      refine Run.seq ?_
      refine Run.quiet (by intro h; cases h) ?_
      refine QOps.st rfl rfl (Yv.move rfl).yl ?_
      refine QOps.st rfl rfl (Yv.assign rfl).yl ?_
      refine QOps.st rfl rfl (Yv.assign rfl).yl ?_
      refine QOps.nil ?_
      refine Run.ret ?_
      refine retQ.of (.inr rfl) rfl (.tmp rfl (.tmp rfl .nil)) (fun w' hw' => ?_)
      refine ⟨?_, hw'.bel.below⟩
      exact retSB_eq hz
theorem SplitV_spec {w : World} {l : List UInt8} (hd : DoorW w) (hl : l.length ≤ 1048576) : Calls Tryz.prog 30 #[strV (Lib.replace (verI l).1 [58] [] 1), strV [32]] w (RetRow w 9 1 (wordsV l).length ((wordsV l).flatMap strC) (fun v => v)) :=
  Split_spec hd (by have := replace_len (c := 58) (s := (verI l).1); have := verI_len (s := l); omega)
theorem indexW_spec {w : World} {A : Option Addr} {c : Nat} {ls : List (List UInt8)} {x : List UInt8} (hs : Sl w 1 A ls.length c (ls.flatMap strC)) : Calls Tryz.prog 33 #[.slice A ls.length c, strV x] w (RetB w (.int .i64 (idxW ls x))) := by
  have hmx := Sl.lenle hs
  refine calls_of_run (vs := [_, _]) (L := [(0, _), (1, _)]) (n := 19) (F := []) (H := []) Tryz.func33 rfl rfl rfl rfl (HOk.start _) ?_
  refine Run.seq ?_
  refine Run.quiet (by intro h; cases h) ?_
  refine QOps.st rfl rfl (Yv.assign rfl).yl ?_
  refine QOps.nil ?_
  refine Run.seq ?_
  refine Run.seq ?_
  refine Run.quiet (by intro h; cases h) ?_
  refine QOps.st rfl rfl (Yv.move rfl).yl ?_
  refine QOps.st rfl rfl (Yv.lenS el50s rfl).yl ?_
  refine QOps.st rfl rfl (Yv.move rfl).yl ?_
  refine QOps.nil ?_
  refine Run.block ?_
  refine Run.loop (S := Nat) (fun s => match s with | k => k ≤ ls.length ∧ ∀ i, i < k → (x == nth ls i) = false) (fun s => match s with | k => [(0, .slice A ls.length c), (1, strV x), (7, .int .i64 (ls.length : Int)), (8, .int .i64 (k : Int))]) (fun s => match s with | k => []) (fun s => match s with | k => ls.length - k) 0 ?_ (SubE.cons rfl (SubE.cons rfl (SubE.cons rfl (SubE.cons rfl (SubE.nil _))))) (List.Sublist.refl _) ?_
  · exact ⟨Nat.zero_le _, fun i hi => by omega⟩
  · rintro k ⟨hk, hall⟩
    show Run _ _ _ _ _ [(0, .slice A ls.length c), (1, strV x), (7, .int .i64 (ls.length : Int)), (8, .int .i64 (k : Int))] [] _
    refine Run.seq ?_
    refine Run.quiet (by intro h; cases h) ?_
    refine QOps.st rfl rfl (Yv.lss rfl rfl).yl ?_
    refine QOps.nil ?_
    refine Run.seq ?_
    refine Run.cond rfl (fun hc1 => ?_) (fun hc1 => ?_)
    · try replace hc1 := of_decide_eq_true hc1
      refine Run.skip ?_
      refine Run.seq ?_
      refine Run.block ?_
      refine Run.seq ?_
      refine Run.quiet (by intro h; cases h) ?_
      refine QOps.st rfl rfl (Yv.move rfl).yl ?_
      refine QOps.st rfl rfl (Yv.assign rfl).yl ?_
      refine QOps.nil ?_
      refine Run.seq ?_
      refine Run.quiet (by intro h; cases h) ?_
      refine QOps.st rfl rfl (Yv.move rfl).yl ?_
      refine QOps.st rfl rfl (Yv.move rfl).yl ?_
      refine QOps.st rfl rfl (Yv.move rfl).yl ?_
      refine QOps.st rfl rfl (Yv.indexAddr k el50 rfl rfl rfl (Rd.arg hs) (by omega)).yl ?_
      refine QOps.st rfl rfl (Yv.loadE lay9 rfl strC_len (Rd.arg hs) (by first | omega | (simp; omega)) rfl).yl ?_
      refine QOps.st rfl rfl (Yv.strEq (a := x) (b := (nth ls (k))) rfl rfl).yl ?_
      refine QOps.nil ?_
      refine Run.cond rfl (fun hc2 => ?_) (fun hc2 => ?_)
      · try replace hc2 := of_decide_eq_true hc2
        refine Run.seq ?_
        refine Run.quiet (by intro h; cases h) ?_
        refine QOps.st rfl rfl (Yv.move rfl).yl ?_
        refine QOps.st rfl rfl (Yv.assign rfl).yl ?_
        refine QOps.nil ?_
        refine Run.ret ?_
        refine retQ.of (.inr rfl) rfl (.tmp rfl .nil) (fun w' hw' => ?_)
        refine ⟨?_, hw'.bel.below⟩
        refine retI_eq ?_
        unfold idxW
        rw [firstTo_some (k := k) (by omega) hc2 hall]
      · try replace hc2 := of_decide_eq_false hc2
        refine Run.skip ?_
        refine Run.quiet (by intro h; cases h) ?_
        refine QOps.st rfl rfl (Yv.succN rfl rfl (by omega)).yl ?_
        refine QOps.st rfl rfl (Yv.move rfl).yl ?_
        refine QOps.nil ?_
        refine ⟨k + 1, ?_, ?_, (SubE.cons rfl (SubE.cons rfl (SubE.cons rfl (SubE.cons rfl (SubE.nil _))))), (List.Sublist.refl _)⟩
        · exact ⟨by omega, all_succ hall hc2⟩
        · first | omega | (dsimp only; omega)
    · try replace hc1 := of_decide_eq_false hc1
      refine Run.exit ?_
      refine Run.seq ?_
      refine Run.quiet (by intro h; cases h) ?_
      refine QOps.st rfl rfl (Yv.assign rfl).yl ?_
      refine QOps.nil ?_
      refine Run.ret ?_
      refine retQ.of (.inr rfl) rfl (.tmp rfl .nil) (fun w' hw' => ?_)
      refine ⟨?_, hw'.bel.below⟩
      refine retI_eq ?_
      unfold idxW
      rw [firstTo_none (fun i hi => hall i (by omega))]
theorem words_sl {w : World} (h : Words w) : Sl w 1 (some ⟨0, 0, none⟩) wordsL.length 4 (wordsL.flatMap strC) := by
  refine ⟨rfl, Nat.le_refl _, by decide, fun _ => ⟨rfl, World.block_lt_of_cell? _ _ (h 0 (by omega)), fun j u hj => ?_⟩⟩
  have hl : j < 4 := by
    have := (List.getElem?_eq_some_iff.1 hj).1
    simpa [wordsL, strC] using this
  show w.cell? ((⟨0, 0, none⟩ : Addr).add j) = some u
  rw [add_row, h j hl]
  rw [← hj]
  have : ∀ j, j < 4 → some (strV (nth wordsL j)) = (wordsL.flatMap strC)[j]? := by
    intro j hj
    match j, hj with
    | 0, _ => rfl
    | 1, _ => rfl
    | 2, _ => rfl
    | 3, _ => rfl
  exact this j hl
theorem ParseMessage_spec {w : World} {l : List UInt8} (hd : DoorW w) (hwords : Words w) (hl : l.length ≤ 1048576) : Calls Tryz.prog 9 #[strV l] w (RetB w (.tuple #[.agg (parseM l).1.enc.toArray, .bool (parseM l).2])) := by
  have htab := hd.tab
  have hv := verI_len (s := l)
  refine calls_of_run (vs := [_]) (L := [(0, _)]) (n := 63) (F := []) (H := []) Tryz.func9 rfl rfl rfl rfl (HOk.start _) ?_
  refine Run.seq ?_
  refine Run.ops ?_
  refine SOps.one rfl (One.alloc rfl zero25 (fun b1 => ?_))
  refine SOps.st rfl rfl (Yv.assign rfl).yl ?_
  refine SOps.nil ?_
  refine Run.seq ?_
  refine Run.quiet (by intro h; cases h) ?_
  refine QOps.st rfl rfl (Yv.move rfl).yl ?_
  refine QOps.st rfl rfl (Yl.call callable29 (.cons rfl (.nil)) (fun w' hw' => Verify_spec (hd.at hw') (by omega))) ?_
  refine QOps.st rfl rfl (Yv.move rfl).yl ?_
  refine QOps.st rfl rfl (Yv.extract rfl rfl).yl ?_
  refine QOps.st rfl rfl (Yv.extract rfl rfl).yl ?_
  refine QOps.st rfl rfl (Yv.assign rfl).yl ?_
  refine QOps.st rfl rfl (Yv.assign rfl).yl ?_
  refine QOps.nil ?_
  refine Run.seq ?_
  refine Run.ops ?_
  refine SOps.st rfl rfl (Yv.move rfl).yl ?_
  refine SOps.st rfl rfl (Yl.call callable31 (.cons rfl (.cons rfl (.cons rfl (.cons rfl (.nil))))) (fun w' hw' => Replace_spec (hd.at hw') (by omega))) ?_
  refine SOps.one rfl (One.callRow rfl callable30 (.cons rfl (.cons rfl (.nil))) (fun w' hw' => SplitV_spec (hd.at hw') hl) (fun A1 c1 => ?_))
  refine SOps.st rfl rfl (Yv.assign rfl).yl ?_
  refine SOps.nil ?_
  refine Run.seq ?_
  refine Run.ops ?_
  refine SOps.st rfl rfl (Yv.move rfl).yl ?_
  refine SOps.one rfl (One.buildSliceG (pv := [(0, _), (1, _), (2, _), (3, _), (4, _)]) (cs := [_, _, _, _, _]) (fun l => match l with | [a0_0, a1_0, a2_0, a3_0, a4_0] => [a0_0, a1_0, a2_0, a3_0, a4_0] | _ => []) rfl el41 (.cons rfl (.cons rfl (.cons rfl (.cons rfl (.cons rfl (.nil)))))) rfl rfl (by kernel_rfl) rfl rfl (fun b2 => ?_))
  refine SOps.one rfl (One.callRow rfl callable32 (.cons rfl (.cons rfl (.nil))) (fun w' hw' => numbersIn_spec (ws := wordsV l) (ps := [1, 3, 7, 9, 11]) (hd.at hw') ((Rd.row (i := 1) rfl) w' hw') ((Rd.row (i := 0) rfl) w' hw') (by simp) (by simp)) (fun A2 c2 => ?_))
  refine SOps.st rfl rfl (Yv.move rfl).yl ?_
  refine SOps.st rfl rfl (Yv.extract rfl rfl).yl ?_
  refine SOps.st rfl rfl (Yv.extract rfl rfl).yl ?_
  refine SOps.st rfl rfl (Yv.assign rfl).yl ?_
  refine SOps.st rfl rfl (Yv.assign rfl).yl ?_
  refine SOps.nil ?_
  refine Run.seq ?_
  refine Run.seq ?_
  refine Run.quiet (by intro h; cases h) ?_
  refine QOps.st rfl rfl (Yv.move rfl).yl ?_
  refine QOps.st rfl rfl (Yv.not rfl).yl ?_
  refine QOps.st rfl rfl (Yv.move rfl).yl ?_
  refine' QOps.or [_, _] _ (.tmp 28) rfl rfl rfl rfl rfl rfl (fun hg1 => ?_) ?_
  rotate_left
  · try replace hg1 := of_decide_eq_false hg1
    refine QOps.st rfl rfl (Yv.move rfl).yl ?_
    refine QOps.st rfl rfl (Yv.not rfl).yl ?_
    exact QOps.nil rfl
  refine QOps.nil ?_
  refine Run.cond rfl (fun hc1 => ?_) (fun hc1 => ?_)
  · try replace hc1 := of_decide_eq_true hc1
    have hz := first_no (by simpa using hc1)
    refine Run.seq ?_
    refine Run.ops ?_
    refine SOps.st rfl rfl (Yv.buildG (pv := []) (cs := [_, _, _, _, _, _]) (fun _ => [.int .i64 0, .int .i64 0, .int .i64 0, .int .i64 0, .int .i64 0, .int .i64 0]) .nil rfl rfl (by kernel_rfl)).yl ?_
    refine SOps.one rfl (One.store (i := 3) (off := 0) (vs := [_, _, _, _, _, _]) (cs' := [_, _, _, _, _, _]) (H' := [_, _, _, _]) lay25 rfl rfl rfl rfl rfl rfl rfl rfl rfl rfl ?_)
    refine SOps.st rfl rfl (Yv.assign rfl).yl ?_
    refine SOps.nil ?_
    refine Run.ret ?_
    refine retQ.of (.inr rfl) rfl (.cells (i := 3) rfl lay25 rfl rfl (.tmp rfl .nil)) (fun w' hw' => ?_)
    refine ⟨?_, hw'.bel.below⟩
    exact retMB_eq hz
  · try replace hc1 := of_decide_eq_false hc1
    have hg1 : (verI l).2 = true ∧ numsB (wordsV l) [1, 3, 7, 9, 11] = true := by simpa using hc1
    obtain ⟨hn5, hfar⟩ := nums_yes hg1.2
    refine Run.skip ?_
    refine Run.seqMid (S := Nat) (fun s => match s with | b4 => True) (fun s => match s with | b4 => [(0, strV l), (2, .pointer (some ⟨b1, 0, none⟩)), (9, .pointer (some ⟨b4, 0, none⟩))]) (fun s => match s with | b4 => [.blk b4 25 (Report.enc (msgI l)), .blk b1 25 [.int .i64 0, .int .i64 0, .int .i64 0, .int .i64 0, .int .i64 0, .int .i64 0]]) ?_ ?_
    ·
      refine Run.draws (fun H => H) (m := 23) (listed := #[false, false, false, false, false, false, false, false, false, false, false, false, false, false, false, false, false, false, false, false, false, false, false]) (by kernel_rfl) rfl rfl ?_
      refine DOps.take (listed' := #[true, false, false, false, false, false, false, false, false, false, false, false, false, false, false, false, false, false, false, false, false, false, false]) 0 rfl (by kernel_rfl) rfl (List.Sublist.refl _) rfl rfl (Yv.move rfl) ?_
      refine DOps.take (listed' := #[true, true, false, false, false, false, false, false, false, false, false, false, false, false, false, false, false, false, false, false, false, false, false]) 1 rfl (by kernel_rfl) rfl (List.Sublist.refl _) rfl rfl (Yv.indexAddr 0 el41 rfl rfl rfl (Rd.row (i := 0) rfl) (by omega)) ?_
      refine DOps.take (listed' := #[true, true, true, false, false, false, false, false, false, false, false, false, false, false, false, false, false, false, false, false, false, false, false]) 2 rfl (by kernel_rfl) rfl (List.Sublist.refl _) rfl rfl (Yv.loadE lay3 rfl intC_len (Rd.row (i := 0) rfl) (by first | omega | (simp; omega)) rfl) ?_
      refine DOps.take (listed' := #[true, true, true, true, false, false, false, false, false, false, false, false, false, false, false, false, false, false, false, false, false, false, false]) 3 rfl (by kernel_rfl) rfl (List.Sublist.refl _) rfl rfl (Yv.move rfl) ?_
      refine DOps.take (listed' := #[true, true, true, true, true, false, false, false, false, false, false, false, false, false, false, false, false, false, false, false, false, false, false]) 4 rfl (by kernel_rfl) rfl (List.Sublist.refl _) rfl rfl (Yv.indexAddr 1 el41 rfl rfl rfl (Rd.row (i := 0) rfl) (by omega)) ?_
      refine DOps.take (listed' := #[true, true, true, true, true, true, false, false, false, false, false, false, false, false, false, false, false, false, false, false, false, false, false]) 5 rfl (by kernel_rfl) rfl (List.Sublist.refl _) rfl rfl (Yv.loadE lay3 rfl intC_len (Rd.row (i := 0) rfl) (by first | omega | (simp; omega)) rfl) ?_
      refine DOps.take (listed' := #[true, true, true, true, true, true, true, false, false, false, false, false, false, false, false, false, false, false, false, false, false, false, false]) 6 rfl (by kernel_rfl) rfl (List.Sublist.refl _) rfl rfl (Yv.cutG Tryz.underlying55 Tryz.sizeOf9) ?_
      refine DOps.take (listed' := #[true, true, true, true, true, true, true, true, false, false, false, false, false, false, false, false, false, false, false, false, false, false, false]) 7 rfl (by kernel_rfl) rfl (List.Sublist.refl _) rfl rfl (Yv.move rfl) ?_
      refine DOps.take (listed' := #[true, true, true, true, true, true, true, true, true, false, false, false, false, false, false, false, false, false, false, false, false, false, false]) 8 rfl (by kernel_rfl) rfl (List.Sublist.refl _) rfl rfl (Yv.indexAddr 4 el50 rfl rfl rfl (Rd.row (i := 2) rfl) (by omega)) ?_
      refine DOps.take (listed' := #[true, true, true, true, true, true, true, true, true, true, false, false, false, false, false, false, false, false, false, false, false, false, false]) 9 rfl (by kernel_rfl) rfl (List.Sublist.refl _) rfl rfl (Yv.loadE lay9 rfl strC_len (Rd.row (i := 2) rfl) (by first | omega | (simp; omega)) rfl) ?_
      refine DOps.take (listed' := #[true, true, true, true, true, true, true, true, true, true, false, true, false, false, false, false, false, false, false, false, false, false, false]) 11 rfl (by kernel_rfl) rfl (List.Sublist.refl _) rfl rfl (Yv.move rfl) ?_
      refine DOps.take (listed' := #[true, true, true, true, true, true, true, true, true, true, false, true, true, false, false, false, false, false, false, false, false, false, false]) 12 rfl (by kernel_rfl) rfl (List.Sublist.refl _) rfl rfl (Yv.indexAddr 2 el41 rfl rfl rfl (Rd.row (i := 0) rfl) (by omega)) ?_
      refine DOps.take (listed' := #[true, true, true, true, true, true, true, true, true, true, false, true, true, true, false, false, false, false, false, false, false, false, false]) 13 rfl (by kernel_rfl) rfl (List.Sublist.refl _) rfl rfl (Yv.loadE lay3 rfl intC_len (Rd.row (i := 0) rfl) (by first | omega | (simp; omega)) rfl) ?_
      refine DOps.take (listed' := #[true, true, true, true, true, true, true, true, true, true, false, true, true, true, true, false, false, false, false, false, false, false, false]) 14 rfl (by kernel_rfl) rfl (List.Sublist.refl _) rfl rfl (Yv.move rfl) ?_
      refine DOps.take (listed' := #[true, true, true, true, true, true, true, true, true, true, false, true, true, true, true, true, false, false, false, false, false, false, false]) 15 rfl (by kernel_rfl) rfl (List.Sublist.refl _) rfl rfl (Yv.indexAddr 3 el41 rfl rfl rfl (Rd.row (i := 0) rfl) (by omega)) ?_
      refine DOps.take (listed' := #[true, true, true, true, true, true, true, true, true, true, false, true, true, true, true, true, true, false, false, false, false, false, false]) 16 rfl (by kernel_rfl) rfl (List.Sublist.refl _) rfl rfl (Yv.loadE lay3 rfl intC_len (Rd.row (i := 0) rfl) (by first | omega | (simp; omega)) rfl) ?_
      refine DOps.take (listed' := #[true, true, true, true, true, true, true, true, true, true, false, true, true, true, true, true, true, true, false, false, false, false, false]) 17 rfl (by kernel_rfl) rfl (List.Sublist.refl _) rfl rfl (Yv.move rfl) ?_
      refine DOps.take (listed' := #[true, true, true, true, true, true, true, true, true, true, false, true, true, true, true, true, true, true, true, false, false, false, false]) 18 rfl (by kernel_rfl) rfl (List.Sublist.refl _) rfl rfl (Yv.indexAddr 4 el41 rfl rfl rfl (Rd.row (i := 0) rfl) (by omega)) ?_
      refine DOps.take (listed' := #[true, true, true, true, true, true, true, true, true, true, false, true, true, true, true, true, true, true, true, true, false, false, false]) 19 rfl (by kernel_rfl) rfl (List.Sublist.refl _) rfl rfl (Yv.loadE lay3 rfl intC_len (Rd.row (i := 0) rfl) (by first | omega | (simp; omega)) rfl) ?_
      refine DOps.fork2 (l1 := #[true, true, true, true, true, true, true, true, true, true, true, true, true, true, true, true, true, true, true, true, false, false, false]) (l2 := #[true, true, true, true, true, true, true, true, true, true, false, true, true, true, true, true, true, true, true, true, false, true, false]) 10 21 rfl rfl (by kernel_rfl) rfl rfl rfl rfl ?_ ?_
      ·
        refine One.st rfl (Yl.call callable33 (.cons rfl (.cons rfl (.nil))) (fun w' hw' => indexW_spec (ls := wordsL) (c := 4) (words_sl (words_at hwords hw')))) ?_
        refine ⟨(List.Sublist.refl _), ?_⟩
        refine DOps.take (listed' := #[true, true, true, true, true, true, true, true, true, true, true, true, true, true, true, true, true, true, true, true, true, false, false]) 20 rfl (by kernel_rfl) rfl (List.Sublist.refl _) rfl rfl (Yv.buildG (pv := [(0, _), (1, _), (2, _), (3, _), (4, _), (5, _)]) (cs := [_, _, _, _, _, _]) (fun l => match l with | [a0_0, a1_0, a2_0, a3_0, a4_0, a5_0] => [a0_0, a1_0, a2_0, a3_0, a4_0, a5_0] | _ => []) (.cons rfl (.cons rfl (.cons rfl (.cons rfl (.cons rfl (.cons rfl (.nil))))))) rfl rfl (by kernel_rfl)) ?_
        refine DOps.only (listed' := #[true, true, true, true, true, true, true, true, true, true, true, true, true, true, true, true, true, true, true, true, true, true, false]) 21 rfl (by kernel_rfl) rfl rfl ?_
        refine One.alloc rfl zero25 (fun b3 => ?_)
        refine ⟨(List.Sublist.cons _ (List.Sublist.refl _)), ?_⟩
        refine DOps.only (listed' := #[true, true, true, true, true, true, true, true, true, true, true, true, true, true, true, true, true, true, true, true, true, true, true]) 22 rfl (by kernel_rfl) rfl rfl ?_
        refine One.store (i := 0) (off := 0) (vs := [_, _, _, _, _, _]) (cs' := [_, _, _, _, _, _]) (H' := [_, _, _, _, _]) lay25 rfl rfl rfl rfl rfl rfl rfl rfl rfl rfl ?_
        refine ⟨(List.Sublist.cons _ (List.Sublist.refl _)), ?_⟩
        refine DOps.done (by kernel_rfl) ?_
        refine ⟨_, ?_, (SubE.cons rfl (SubE.cons rfl (SubE.cons rfl (SubE.nil _)))), (List.Sublist.cons_cons _ (List.Sublist.cons _ (List.Sublist.cons _ (List.Sublist.cons _ (List.Sublist.refl _)))))⟩
        · exact trivial
      ·
        refine One.alloc rfl zero25 (fun b3 => ?_)
        refine ⟨(List.Sublist.cons _ (List.Sublist.refl _)), ?_⟩
        refine DOps.only (listed' := #[true, true, true, true, true, true, true, true, true, true, true, true, true, true, true, true, true, true, true, true, false, true, false]) 10 rfl (by kernel_rfl) rfl rfl ?_
        refine One.st rfl (Yl.call callable33 (.cons rfl (.cons rfl (.nil))) (fun w' hw' => indexW_spec (ls := wordsL) (c := 4) (words_sl (words_at hwords hw')))) ?_
        refine ⟨(List.Sublist.cons _ (List.Sublist.refl _)), ?_⟩
        refine DOps.take (listed' := #[true, true, true, true, true, true, true, true, true, true, true, true, true, true, true, true, true, true, true, true, true, true, false]) 20 rfl (by kernel_rfl) rfl (List.Sublist.cons _ (List.Sublist.refl _)) rfl rfl (Yv.buildG (pv := [(0, _), (1, _), (2, _), (3, _), (4, _), (5, _)]) (cs := [_, _, _, _, _, _]) (fun l => match l with | [a0_0, a1_0, a2_0, a3_0, a4_0, a5_0] => [a0_0, a1_0, a2_0, a3_0, a4_0, a5_0] | _ => []) (.cons rfl (.cons rfl (.cons rfl (.cons rfl (.cons rfl (.cons rfl (.nil))))))) rfl rfl (by kernel_rfl)) ?_
        refine DOps.only (listed' := #[true, true, true, true, true, true, true, true, true, true, true, true, true, true, true, true, true, true, true, true, true, true, true]) 22 rfl (by kernel_rfl) rfl rfl ?_
        refine One.store (i := 0) (off := 0) (vs := [_, _, _, _, _, _]) (cs' := [_, _, _, _, _, _]) (H' := [_, _, _, _, _]) lay25 rfl rfl rfl rfl rfl rfl rfl rfl rfl rfl ?_
        refine ⟨(List.Sublist.cons _ (List.Sublist.refl _)), ?_⟩
        refine DOps.done (by kernel_rfl) ?_
        refine ⟨_, ?_, (SubE.cons rfl (SubE.cons rfl (SubE.cons rfl (SubE.nil _)))), (List.Sublist.cons_cons _ (List.Sublist.cons _ (List.Sublist.cons _ (List.Sublist.cons _ (List.Sublist.refl _)))))⟩
        · exact trivial
    · rintro b4 -
      show Run _ _ _ _ _ [(0, strV l), (2, .pointer (some ⟨b1, 0, none⟩)), (9, .pointer (some ⟨b4, 0, none⟩))] [.blk b4 25 (Report.enc (msgI l)), .blk b1 25 [.int .i64 0, .int .i64 0, .int .i64 0, .int .i64 0, .int .i64 0, .int .i64 0]] _
      refine Run.seq ?_
      refine Run.seq ?_
      refine Run.quiet (by intro h; cases h) ?_
      refine QOps.st rfl rfl (Yv.loadBs (i := 0) lay25 rfl rfl rfl rfl).yl ?_
      refine QOps.st rfl rfl (Yl.call callable8 (.cons rfl (.nil)) (fun w' hw' => IsEReport_spec)) ?_
      refine QOps.st rfl rfl (Yv.not rfl).yl ?_
      refine QOps.st rfl rfl (Yv.move rfl).yl ?_
      refine' QOps.or [_, _, _, _] _ (.tmp 59) rfl rfl rfl rfl rfl rfl (fun hg2 => ?_) ?_
      rotate_left
      · try replace hg2 := of_decide_eq_false hg2
        have hok : oneR (msgI l) = true := by simpa using hg2
        refine QOps.st rfl rfl (Yv.loadBs (i := 0) lay25 rfl rfl rfl rfl).yl ?_
        refine QOps.st rfl rfl (Yl.call callable23 (.cons rfl (.nil)) (fun w' hw' => messageOf_spec (tab_at htab hw') (words_at hwords hw') hok)) ?_
        refine QOps.st rfl rfl (Yv.move rfl).yl ?_
        refine QOps.st rfl rfl (Yv.strNe (a := (sealT (msgT (msgI l)))) (b := l) rfl rfl).yl ?_
        exact QOps.nil rfl
      refine QOps.nil ?_
      refine Run.cond rfl (fun hc2 => ?_) (fun hc2 => ?_)
      · try replace hc2 := of_decide_eq_true hc2
        have hz := last_no (by simpa using hc2)
        refine Run.seq ?_
        refine Run.ops ?_
        refine SOps.st rfl rfl (Yv.buildG (pv := []) (cs := [_, _, _, _, _, _]) (fun _ => [.int .i64 0, .int .i64 0, .int .i64 0, .int .i64 0, .int .i64 0, .int .i64 0]) .nil rfl rfl (by kernel_rfl)).yl ?_
        refine SOps.one rfl (One.store (i := 1) (off := 0) (vs := [_, _, _, _, _, _]) (cs' := [_, _, _, _, _, _]) (H' := [_, _]) lay25 rfl rfl rfl rfl rfl rfl rfl rfl rfl rfl ?_)
        refine SOps.st rfl rfl (Yv.assign rfl).yl ?_
        refine SOps.nil ?_
        refine Run.ret ?_
        refine retQ.of (.inr rfl) rfl (.cells (i := 1) rfl lay25 rfl rfl (.tmp rfl .nil)) (fun w' hw' => ?_)
        refine ⟨?_, hw'.bel.below⟩
        exact retMB_eq hz
      · try replace hc2 := of_decide_eq_false hc2
        have hz := last_yes (by simpa using hc2)
        refine Run.skip ?_
        refine Run.seq ?_
        refine Run.ops ?_
        refine SOps.st rfl rfl (Yv.loadBs (i := 0) lay25 rfl rfl rfl rfl).yl ?_
        refine SOps.one rfl (One.store (i := 1) (off := 0) (vs := [_, _, _, _, _, _]) (cs' := [_, _, _, _, _, _]) (H' := [_, _]) lay25 rfl rfl rfl rfl rfl rfl rfl rfl rfl rfl ?_)
        refine SOps.st rfl rfl (Yv.assign rfl).yl ?_
        refine SOps.nil ?_
        refine Run.ret ?_
        refine retQ.of (.inr rfl) rfl (.cells (i := 1) rfl lay25 rfl rfl (.tmp rfl .nil)) (fun w' hw' => ?_)
        refine ⟨?_, hw'.bel.below⟩
        exact retMB_eq hz
end Go.Proofs.YtlpgcbkialcjcaaGreatDoor
