/- Notices: the program's own parse, walked. Conditions: none. -/
import Derived.Test.YtjabeiolgghfdaaGreatDoorZnO
import Derived.Test.YtjabeiolgghfdaaGreatDoorJn
namespace Go.Proofs.YtjabeiolgghfdaaGreatDoor
open Go.RowKit
set_option maxRecDepth 100000
theorem SplitI_spec {w : World} {l : List UInt8} (hd : DoorW w) (hl : l.length ≤ 1048576) : Calls Tryz.prog 26 #[strV (Lib.replace l [58] [] 1), strV [32]] w (RetRow w 9 1 (wordsI l).length ((wordsI l).flatMap strC) (fun v => v)) :=
  Split_spec hd (by have := replace_len (c := 58) (s := l); omega)
theorem atI_or (ws : List (List UInt8)) : atI ws = 3 ∨ atI ws = 5 := by
  unfold atI
  split
  · exact .inr rfl
  · split
    · exact .inr rfl
    · exact .inl rfl
theorem words_few {l : List UInt8} (h : (decide (((wordsI l).length : Int) < 3) || decide ((200 : Int) < (l.length : Int))) = true) : parseS l = (default, false) := parseS_no fun n ho hs => by
  subst hs
  have S := sees ho
  have h1 := S.len
  have h2 := S.short
  simp at h
  omega
theorem nums_no {l : List UInt8} {k : Int} (hk : k = atI (wordsI l)) (h : numsB (wordsI l) [1, k + 2, k + 5, k + 8, k + 10] = false) : parseS l = (default, false) := parseS_no fun n ho hs => by
  subst hs
  subst hk
  have S := sees ho
  have h1 : numsB (wordsI (noteT n)) (placesI (atI (wordsI (noteT n)))) = true := by
    unfold numsB
    rw [show (placesI (atI (wordsI (noteT n)))).length = 5 from rfl, S.nums]
    rfl
  have h2 : numsB (wordsI (noteT n)) (placesI (atI (wordsI (noteT n)))) = false := h
  rw [h1] at h2
  cases h2
theorem nums_yes {ws : List (List UInt8)} {k : Int} (h : numsB ws [1, k + 2, k + 5, k + 8, k + 10] = true) : (numsL ws [1, k + 2, k + 5, k + 8, k + 10]).length = 5 ∧ k + 10 < (ws.length : Int) := by
  unfold numsB at h
  unfold numsL
  obtain ⟨o, ho⟩ := Option.isSome_iff_exists.1 h
  rw [ho]
  exact ⟨numsTo_len ho, numsTo_far (n := 5) (i := 4) ho (by decide)⟩
theorem value_no {l : List UInt8} {k : Int} (hk : k = atI (wordsI l)) (h5 : k = 5) (h : (readR (nth (wordsI l) 3)).2 = false) : parseS l = (default, false) := parseS_no fun n ho hs => by
  subst hs
  have S := sees ho
  rw [S.value (by omega)] at h
  cases h
theorem final_no {l : List UInt8} {N : Notice} (hN : N = noteI (wordsI l)) (hc : (!noticeOk N || !(noteT N == l)) = true) : parseS l = (default, false) := parseS_no fun n ho hs => by
  subst hs
  have S := sees ho
  rw [hN, S.note, ho] at hc
  simp at hc
theorem final_yes {l : List UInt8} {N : Notice} (hc : (!noticeOk N || !(noteT N == l)) = false) : parseS l = (N, true) := by
  simp only [Bool.or_eq_false_iff, Bool.not_eq_false', beq_iff_eq] at hc
  exact parseS_yes hc.1 hc.2
theorem note_5 {l : List UInt8} {kd k : Int} (hkd : kd = kindI (wordsI l)) (hk : k = atI (wordsI l)) (h5 : k = 5) : (⟨nth (numsL (wordsI l) [1, k + 2, k + 5, k + 8, k + 10]) 0, kd, nth (numsL (wordsI l) [1, k + 2, k + 5, k + 8, k + 10]) 1, nth (numsL (wordsI l) [1, k + 2, k + 5, k + 8, k + 10]) 2, nth (numsL (wordsI l) [1, k + 2, k + 5, k + 8, k + 10]) 3, nth (numsL (wordsI l) [1, k + 2, k + 5, k + 8, k + 10]) 4, (readR (nth (wordsI l) 3)).1⟩ : Notice) = noteI (wordsI l) := by
  unfold noteI
  rw [← hk, if_pos h5, hkd]
  rfl
theorem note_3 {l : List UInt8} {kd k : Int} (hkd : kd = kindI (wordsI l)) (hk : k = atI (wordsI l)) (h5 : ¬ k = 5) : (⟨nth (numsL (wordsI l) [1, k + 2, k + 5, k + 8, k + 10]) 0, kd, nth (numsL (wordsI l) [1, k + 2, k + 5, k + 8, k + 10]) 1, nth (numsL (wordsI l) [1, k + 2, k + 5, k + 8, k + 10]) 2, nth (numsL (wordsI l) [1, k + 2, k + 5, k + 8, k + 10]) 3, nth (numsL (wordsI l) [1, k + 2, k + 5, k + 8, k + 10]) 4, 0⟩ : Notice) = noteI (wordsI l) := by
  unfold noteI
  rw [← hk, if_neg h5, hkd]
  rfl
theorem kind_d {ws : List (List UInt8)} (h : (nth ws 2 == [100, 101, 112, 116, 104]) = true) : 2 = kindI ws ∧ 5 = atI ws := by
  have e : nth ws 2 = [100, 101, 112, 116, 104] := by simpa using h
  simp [kindI, atI, e]
theorem kind_s {ws : List (List UInt8)} (h : (nth ws 2 == [100, 101, 112, 116, 104]) = false) (h2 : (nth ws 2 == [115, 112, 101, 101, 100]) = true) : 3 = kindI ws ∧ 5 = atI ws := by
  have e : ¬ nth ws 2 = [100, 101, 112, 116, 104] := by simpa using h
  have e2 : nth ws 2 = [115, 112, 101, 101, 100] := by simpa using h2
  simp [kindI, atI, e2]
theorem kind_c {ws : List (List UInt8)} (h : (nth ws 2 == [100, 101, 112, 116, 104]) = false) (h2 : (nth ws 2 == [115, 112, 101, 101, 100]) = false) : 1 = kindI ws ∧ 3 = atI ws := by
  have e : ¬ nth ws 2 = [100, 101, 112, 116, 104] := by simpa using h
  have e2 : ¬ nth ws 2 = [115, 112, 101, 101, 100] := by simpa using h2
  simp [kindI, atI, e, e2]
theorem retNB_eq {a b : Notice} {x y : Bool} (h : (b, y) = (a, x)) : Ending.returned (single [.agg a.enc.toArray, .bool x]) = .returned (.tuple #[.agg b.enc.toArray, .bool y]) := by
  rw [Prod.mk.injEq] at h
  rw [h.1, h.2]
  rfl
theorem ParseNotice_spec {w : World} {l : List UInt8} (hd : DoorW w) (hl : l.length ≤ 1048576) : Calls Tryz.prog 8 #[strV l] w (RetB w (.tuple #[.agg (parseS l).1.enc.toArray, .bool (parseS l).2])) := by
  have htab := hd.tab
  refine calls_of_run (vs := [_]) (L := [(0, _)]) (n := 95) (F := []) (H := []) Tryz.func8 rfl rfl rfl rfl (HOk.start _) ?_
  refine Run.seq ?_
  refine Run.ops ?_
  refine SOps.one rfl (One.alloc rfl zero25 (fun b1 => ?_))
  refine SOps.st rfl rfl (Yv.assign rfl).yl ?_
  refine SOps.nil ?_
  refine Run.seq ?_
  refine Run.ops ?_
  refine SOps.st rfl rfl (Yv.move rfl).yl ?_
  refine SOps.st rfl rfl (Yl.call callable27 (.cons rfl (.cons rfl (.cons rfl (.cons rfl (.nil))))) (fun w' hw' => Replace_spec (hd.at hw') (by omega))) ?_
  refine SOps.one rfl (One.callRow rfl callable26 (.cons rfl (.cons rfl (.nil))) (fun w' hw' => SplitI_spec (hd.at hw') hl) (fun A1 c1 => ?_))
  refine SOps.st rfl rfl (Yv.assign rfl).yl ?_
  refine SOps.nil ?_
  refine Run.seq ?_
  refine Run.seq ?_
  refine Run.quiet (by intro h; cases h) ?_
  refine QOps.st rfl rfl (Yv.move rfl).yl ?_
  refine QOps.st rfl rfl (Yv.lenS el53s rfl).yl ?_
  refine QOps.st rfl rfl (Yv.lss rfl rfl).yl ?_
  refine QOps.st rfl rfl (Yv.move rfl).yl ?_
  refine' QOps.or [_, _, _] _ (.tmp 20) rfl rfl rfl rfl rfl rfl (fun hg1 => ?_) ?_
  rotate_left
  · try replace hg1 := of_decide_eq_false hg1
    refine QOps.st rfl rfl (Yv.move rfl).yl ?_
    refine QOps.st rfl rfl (Yv.strLen (a := l) str9 rfl).yl ?_
    refine QOps.st rfl rfl (Yv.gtr rfl rfl).yl ?_
    exact QOps.nil rfl
  refine QOps.nil ?_
  refine Run.cond rfl (fun hc1 => ?_) (fun hc1 => ?_)
  · try replace hc1 := of_decide_eq_true hc1
    have hz := words_few hc1
    refine Run.seq ?_
    refine Run.ops ?_
    refine SOps.st rfl rfl (Yv.buildG (pv := []) (cs := [_, _, _, _, _, _, _]) (fun _ => [.int .i64 0, .int .i64 0, .int .i64 0, .int .i64 0, .int .i64 0, .int .i64 0, .int .i64 0]) .nil rfl rfl (by kernel_rfl)).yl ?_
    refine SOps.one rfl (One.store (i := 1) (off := 0) (vs := [_, _, _, _, _, _, _]) (cs' := [_, _, _, _, _, _, _]) (H' := [_, _]) lay25 rfl rfl rfl rfl rfl rfl rfl rfl rfl rfl ?_)
    refine SOps.st rfl rfl (Yv.assign rfl).yl ?_
    refine SOps.nil ?_
    refine Run.ret ?_
    refine retQ.of (.inr rfl) rfl (.cells (i := 1) rfl lay25 rfl rfl (.tmp rfl .nil)) (fun w' hw' => ?_)
    refine ⟨?_, hw'.bel.below⟩
    exact retNB_eq hz
  · try replace hc1 := of_decide_eq_false hc1
    have h3 : 3 ≤ (wordsI l).length ∧ l.length ≤ 200 := by simp at hc1; omega
    refine Run.skip ?_
    refine Run.seq ?_
    refine Run.ops ?_
    refine SOps.st rfl rfl (Yv.buildG (pv := [(1, _)]) (cs := [_, _, _, _, _, _, _]) (fun l => match l with | [a0_0] => [.int .i64 0, a0_0, .int .i64 0, .int .i64 0, .int .i64 0, .int .i64 0, .int .i64 0] | _ => []) (.cons rfl (.nil)) rfl rfl (by kernel_rfl)).yl ?_
    refine SOps.one rfl (One.alloc rfl zero25 (fun b2 => ?_))
    refine SOps.one rfl (One.store (i := 0) (off := 0) (vs := [_, _, _, _, _, _, _]) (cs' := [_, _, _, _, _, _, _]) (H' := [_, _, _]) lay25 rfl rfl rfl rfl rfl rfl rfl rfl rfl rfl ?_)
    refine SOps.st rfl rfl (Yv.assign rfl).yl ?_
    refine SOps.nil ?_
    refine Run.seqMid (S := Int × Int) (fun s => match s with | (kd, k) => kd = kindI (wordsI l) ∧ k = atI (wordsI l)) (fun s => match s with | (kd, k) => [(0, strV l), (2, .pointer (some ⟨b1, 0, none⟩)), (4, .slice A1 ((wordsI l).length) c1), (5, .pointer (some ⟨b2, 0, none⟩)), (6, .int .i64 k)]) (fun s => match s with | (kd, k) => [.blk b2 25 [.int .i64 0, .int .i64 kd, .int .i64 0, .int .i64 0, .int .i64 0, .int .i64 0, .int .i64 0], .row A1 c1 9 1 (wordsI l).length ((wordsI l).flatMap strC), .blk b1 25 [.int .i64 0, .int .i64 0, .int .i64 0, .int .i64 0, .int .i64 0, .int .i64 0, .int .i64 0]]) ?_ ?_
    ·
      refine Run.seq ?_
      refine Run.quiet (by intro h; cases h) ?_
      refine QOps.st rfl rfl (Yv.move rfl).yl ?_
      refine QOps.st rfl rfl (Yv.indexAddr 2 el53 rfl rfl rfl (Rd.row (i := 1) rfl) (by omega)).yl ?_
      refine QOps.st rfl rfl (Yv.loadE lay9 rfl strC_len (Rd.row (i := 1) rfl) (by first | omega | (simp; omega)) rfl).yl ?_
      refine QOps.nil ?_
      refine Run.block ?_
      refine Run.seq ?_
      refine Run.quiet (by intro h; cases h) ?_
      refine QOps.st rfl rfl (Yv.strEq (a := (nth (wordsI l) (2))) (b := [100, 101, 112, 116, 104]) rfl rfl).yl ?_
      refine QOps.st rfl rfl (Yv.assign rfl).yl ?_
      refine QOps.nil ?_
      refine Run.cond rfl (fun hc2 => ?_) (fun hc2 => ?_)
      · try replace hc2 := of_decide_eq_true hc2
        refine Run.ops ?_
        refine SOps.st rfl rfl (Yv.fieldAddr fld25_1 rfl).yl ?_
        refine SOps.one rfl (One.store (i := 0) (off := 1) (vs := [_]) (cs' := [_, _, _, _, _, _, _]) (H' := [_, _, _]) lay3 rfl rfl rfl rfl rfl rfl rfl rfl rfl rfl ?_)
        refine SOps.st rfl rfl (Yv.assign rfl).yl ?_
        refine SOps.nil ?_
        refine ⟨(_, _), ?_, (SubE.cons rfl (SubE.cons rfl (SubE.cons rfl (SubE.cons rfl (SubE.cons rfl (SubE.nil _)))))), (List.Sublist.refl _)⟩
        · first | exact kind_d hc2 | exact kind_s hc2 hc3 | exact kind_c hc2 hc3
      · try replace hc2 := of_decide_eq_false hc2
        refine Run.seq ?_
        refine Run.quiet (by intro h; cases h) ?_
        refine QOps.st rfl rfl (Yv.strEq (a := (nth (wordsI l) (2))) (b := [115, 112, 101, 101, 100]) rfl rfl).yl ?_
        refine QOps.st rfl rfl (Yv.assign rfl).yl ?_
        refine QOps.nil ?_
        refine Run.cond rfl (fun hc3 => ?_) (fun hc3 => ?_)
        · try replace hc3 := of_decide_eq_true hc3
          refine Run.ops ?_
          refine SOps.st rfl rfl (Yv.fieldAddr fld25_1 rfl).yl ?_
          refine SOps.one rfl (One.store (i := 0) (off := 1) (vs := [_]) (cs' := [_, _, _, _, _, _, _]) (H' := [_, _, _]) lay3 rfl rfl rfl rfl rfl rfl rfl rfl rfl rfl ?_)
          refine SOps.st rfl rfl (Yv.assign rfl).yl ?_
          refine SOps.nil ?_
          refine ⟨(_, _), ?_, (SubE.cons rfl (SubE.cons rfl (SubE.cons rfl (SubE.cons rfl (SubE.cons rfl (SubE.nil _)))))), (List.Sublist.refl _)⟩
          · first | exact kind_d hc2 | exact kind_s hc2 hc3 | exact kind_c hc2 hc3
        · try replace hc3 := of_decide_eq_false hc3
          refine Run.skip ?_
          refine ⟨(_, _), ?_, (SubE.cons rfl (SubE.cons rfl (SubE.cons rfl (SubE.cons rfl (SubE.cons rfl (SubE.nil _)))))), (List.Sublist.refl _)⟩
          · first | exact kind_d hc2 | exact kind_s hc2 hc3 | exact kind_c hc2 hc3
    · rintro ⟨kd, k⟩ ⟨hkd, hat⟩
      show Run _ _ _ _ _ [(0, strV l), (2, .pointer (some ⟨b1, 0, none⟩)), (4, .slice A1 ((wordsI l).length) c1), (5, .pointer (some ⟨b2, 0, none⟩)), (6, .int .i64 k)] [.blk b2 25 [.int .i64 0, .int .i64 kd, .int .i64 0, .int .i64 0, .int .i64 0, .int .i64 0, .int .i64 0], .row A1 c1 9 1 (wordsI l).length ((wordsI l).flatMap strC), .blk b1 25 [.int .i64 0, .int .i64 0, .int .i64 0, .int .i64 0, .int .i64 0, .int .i64 0, .int .i64 0]] _
      have h35 := atI_or (wordsI l)
      rw [← hat] at h35
      refine Run.seq ?_
      refine Run.ops ?_
      refine SOps.st rfl rfl (Yv.move rfl).yl ?_
      refine SOps.st rfl rfl (Yv.move rfl).yl ?_
      refine SOps.st rfl rfl (Yv.add rfl rfl (by omega)).yl ?_
      refine SOps.st rfl rfl (Yv.move rfl).yl ?_
      refine SOps.st rfl rfl (Yv.add rfl rfl (by omega)).yl ?_
      refine SOps.st rfl rfl (Yv.move rfl).yl ?_
      refine SOps.st rfl rfl (Yv.add rfl rfl (by omega)).yl ?_
      refine SOps.st rfl rfl (Yv.move rfl).yl ?_
      refine SOps.st rfl rfl (Yv.add rfl rfl (by omega)).yl ?_
      refine SOps.one rfl (One.buildSliceG (pv := [(0, _), (1, _), (2, _), (3, _), (4, _)]) (cs := [_, _, _, _, _]) (fun l => match l with | [a0_0, a1_0, a2_0, a3_0, a4_0] => [a0_0, a1_0, a2_0, a3_0, a4_0] | _ => []) rfl el35 (.cons rfl (.cons rfl (.cons rfl (.cons rfl (.cons rfl (.nil)))))) rfl rfl (by kernel_rfl) rfl rfl (fun b3 => ?_))
      refine SOps.one rfl (One.callRow rfl callable28 (.cons rfl (.cons rfl (.nil))) (fun w' hw' => numbersIn_spec (ws := wordsI l) (ps := [1, (k + 2), (k + 5), (k + 8), (k + 10)]) (hd.at hw') ((Rd.row (i := 2) rfl) w' hw') ((Rd.row (i := 0) rfl) w' hw') (by simp; omega) (by simp)) (fun A2 c2 => ?_))
      refine SOps.st rfl rfl (Yv.move rfl).yl ?_
      refine SOps.st rfl rfl (Yv.extract rfl rfl).yl ?_
      refine SOps.st rfl rfl (Yv.extract rfl rfl).yl ?_
      refine SOps.st rfl rfl (Yv.assign rfl).yl ?_
      refine SOps.st rfl rfl (Yv.assign rfl).yl ?_
      refine SOps.nil ?_
      refine Run.seq ?_
      refine Run.seq ?_
      refine Run.quiet (by intro h; cases h) ?_
      refine QOps.st rfl rfl (Yv.move rfl).yl ?_
      refine QOps.st rfl rfl (Yv.not rfl).yl ?_
      refine QOps.nil ?_
      refine Run.cond rfl (fun hc4 => ?_) (fun hc4 => ?_)
      · try replace hc4 := of_decide_eq_true hc4
        have hz := nums_no hat (by simpa using hc4)
        refine Run.seq ?_
        refine Run.ops ?_
        refine SOps.st rfl rfl (Yv.buildG (pv := []) (cs := [_, _, _, _, _, _, _]) (fun _ => [.int .i64 0, .int .i64 0, .int .i64 0, .int .i64 0, .int .i64 0, .int .i64 0, .int .i64 0]) .nil rfl rfl (by kernel_rfl)).yl ?_
        refine SOps.one rfl (One.store (i := 4) (off := 0) (vs := [_, _, _, _, _, _, _]) (cs' := [_, _, _, _, _, _, _]) (H' := [_, _, _, _, _]) lay25 rfl rfl rfl rfl rfl rfl rfl rfl rfl rfl ?_)
        refine SOps.st rfl rfl (Yv.assign rfl).yl ?_
        refine SOps.nil ?_
        refine Run.ret ?_
        refine retQ.of (.inr rfl) rfl (.cells (i := 4) rfl lay25 rfl rfl (.tmp rfl .nil)) (fun w' hw' => ?_)
        refine ⟨?_, hw'.bel.below⟩
        exact retNB_eq hz
      · try replace hc4 := of_decide_eq_false hc4
        obtain ⟨hn5, hfar⟩ := nums_yes (by simpa using hc4)
        refine Run.skip ?_
        refine Run.seq ?_
        refine Run.draws (fun H => (H).eraseIdx 2) (m := 25) (listed := #[false, false, false, false, false, false, false, false, false, false, false, false, false, false, false, false, false, false, false, false, false, false, false, false, false]) (by kernel_rfl) rfl rfl ?_
        refine DOps.take (listed' := #[true, false, false, false, false, false, false, false, false, false, false, false, false, false, false, false, false, false, false, false, false, false, false, false, false]) 0 rfl (by kernel_rfl) rfl (List.Sublist.cons_cons _ (List.Sublist.cons_cons _ (List.Sublist.cons _ (List.Sublist.refl _)))) rfl rfl (Yv.move rfl) ?_
        refine DOps.take (listed' := #[true, true, false, false, false, false, false, false, false, false, false, false, false, false, false, false, false, false, false, false, false, false, false, false, false]) 1 rfl (by kernel_rfl) rfl (List.Sublist.cons_cons _ (List.Sublist.cons_cons _ (List.Sublist.cons _ (List.Sublist.refl _)))) rfl rfl (Yv.indexAddr 0 el35 rfl rfl rfl (Rd.row (i := 0) rfl) (by omega)) ?_
        refine DOps.take (listed' := #[true, true, true, false, false, false, false, false, false, false, false, false, false, false, false, false, false, false, false, false, false, false, false, false, false]) 2 rfl (by kernel_rfl) rfl (List.Sublist.cons_cons _ (List.Sublist.cons_cons _ (List.Sublist.cons _ (List.Sublist.refl _)))) rfl rfl (Yv.loadE lay3 rfl intC_len (Rd.row (i := 0) rfl) (by first | omega | (simp; omega)) rfl) ?_
        refine DOps.take (listed' := #[true, true, true, true, false, false, false, false, false, false, false, false, false, false, false, false, false, false, false, false, false, false, false, false, false]) 3 rfl (by kernel_rfl) rfl (List.Sublist.cons_cons _ (List.Sublist.cons_cons _ (List.Sublist.cons _ (List.Sublist.refl _)))) rfl rfl (Yv.move rfl) ?_
        refine DOps.take (listed' := #[true, true, true, true, true, false, false, false, false, false, false, false, false, false, false, false, false, false, false, false, false, false, false, false, false]) 4 rfl (by kernel_rfl) rfl (List.Sublist.cons_cons _ (List.Sublist.cons_cons _ (List.Sublist.cons _ (List.Sublist.refl _)))) rfl rfl (Yv.indexAddr 1 el35 rfl rfl rfl (Rd.row (i := 0) rfl) (by omega)) ?_
        refine DOps.take (listed' := #[true, true, true, true, true, true, false, false, false, false, false, false, false, false, false, false, false, false, false, false, false, false, false, false, false]) 5 rfl (by kernel_rfl) rfl (List.Sublist.cons_cons _ (List.Sublist.cons_cons _ (List.Sublist.cons _ (List.Sublist.refl _)))) rfl rfl (Yv.loadE lay3 rfl intC_len (Rd.row (i := 0) rfl) (by first | omega | (simp; omega)) rfl) ?_
        refine DOps.take (listed' := #[true, true, true, true, true, true, true, false, false, false, false, false, false, false, false, false, false, false, false, false, false, false, false, false, false]) 6 rfl (by kernel_rfl) rfl (List.Sublist.cons_cons _ (List.Sublist.cons_cons _ (List.Sublist.cons _ (List.Sublist.refl _)))) rfl rfl (Yv.move rfl) ?_
        refine DOps.take (listed' := #[true, true, true, true, true, true, true, true, false, false, false, false, false, false, false, false, false, false, false, false, false, false, false, false, false]) 7 rfl (by kernel_rfl) rfl (List.Sublist.cons_cons _ (List.Sublist.cons_cons _ (List.Sublist.cons _ (List.Sublist.refl _)))) rfl rfl (Yv.indexAddr 2 el35 rfl rfl rfl (Rd.row (i := 0) rfl) (by omega)) ?_
        refine DOps.take (listed' := #[true, true, true, true, true, true, true, true, true, false, false, false, false, false, false, false, false, false, false, false, false, false, false, false, false]) 8 rfl (by kernel_rfl) rfl (List.Sublist.cons_cons _ (List.Sublist.cons_cons _ (List.Sublist.cons _ (List.Sublist.refl _)))) rfl rfl (Yv.loadE lay3 rfl intC_len (Rd.row (i := 0) rfl) (by first | omega | (simp; omega)) rfl) ?_
        refine DOps.take (listed' := #[true, true, true, true, true, true, true, true, true, true, false, false, false, false, false, false, false, false, false, false, false, false, false, false, false]) 9 rfl (by kernel_rfl) rfl (List.Sublist.cons_cons _ (List.Sublist.cons_cons _ (List.Sublist.cons _ (List.Sublist.refl _)))) rfl rfl (Yv.move rfl) ?_
        refine DOps.take (listed' := #[true, true, true, true, true, true, true, true, true, true, true, false, false, false, false, false, false, false, false, false, false, false, false, false, false]) 10 rfl (by kernel_rfl) rfl (List.Sublist.cons_cons _ (List.Sublist.cons_cons _ (List.Sublist.cons _ (List.Sublist.refl _)))) rfl rfl (Yv.indexAddr 3 el35 rfl rfl rfl (Rd.row (i := 0) rfl) (by omega)) ?_
        refine DOps.take (listed' := #[true, true, true, true, true, true, true, true, true, true, true, true, false, false, false, false, false, false, false, false, false, false, false, false, false]) 11 rfl (by kernel_rfl) rfl (List.Sublist.cons_cons _ (List.Sublist.cons_cons _ (List.Sublist.cons _ (List.Sublist.refl _)))) rfl rfl (Yv.loadE lay3 rfl intC_len (Rd.row (i := 0) rfl) (by first | omega | (simp; omega)) rfl) ?_
        refine DOps.take (listed' := #[true, true, true, true, true, true, true, true, true, true, true, true, true, false, false, false, false, false, false, false, false, false, false, false, false]) 12 rfl (by kernel_rfl) rfl (List.Sublist.cons_cons _ (List.Sublist.cons_cons _ (List.Sublist.cons _ (List.Sublist.refl _)))) rfl rfl (Yv.move rfl) ?_
        refine DOps.take (listed' := #[true, true, true, true, true, true, true, true, true, true, true, true, true, true, false, false, false, false, false, false, false, false, false, false, false]) 13 rfl (by kernel_rfl) rfl (List.Sublist.cons_cons _ (List.Sublist.cons_cons _ (List.Sublist.cons _ (List.Sublist.refl _)))) rfl rfl (Yv.indexAddr 4 el35 rfl rfl rfl (Rd.row (i := 0) rfl) (by omega)) ?_
        refine DOps.take (listed' := #[true, true, true, true, true, true, true, true, true, true, true, true, true, true, true, false, false, false, false, false, false, false, false, false, false]) 14 rfl (by kernel_rfl) rfl (List.Sublist.cons_cons _ (List.Sublist.cons_cons _ (List.Sublist.cons _ (List.Sublist.refl _)))) rfl rfl (Yv.loadE lay3 rfl intC_len (Rd.row (i := 0) rfl) (by first | omega | (simp; omega)) rfl) ?_
        refine DOps.take (listed' := #[true, true, true, true, true, true, true, true, true, true, true, true, true, true, true, true, false, false, false, false, false, false, false, false, false]) 15 rfl (by kernel_rfl) rfl (List.Sublist.cons_cons _ (List.Sublist.cons_cons _ (List.Sublist.cons _ (List.Sublist.refl _)))) rfl rfl (Yv.fieldAddr fld25_0 rfl) ?_
        refine DOps.only (listed' := #[true, true, true, true, true, true, true, true, true, true, true, true, true, true, true, true, true, false, false, false, false, false, false, false, false]) 16 rfl (by kernel_rfl) rfl rfl ?_
        refine One.store (i := 2) (off := 0) (vs := [_]) (cs' := [_, _, _, _, _, _, _]) (H' := [_, _, _, _, _]) lay3 rfl rfl rfl rfl rfl rfl rfl rfl rfl rfl ?_
        refine ⟨(List.Sublist.cons_cons _ (List.Sublist.cons_cons _ (List.Sublist.cons _ (List.Sublist.refl _)))), ?_⟩
        refine DOps.take (listed' := #[true, true, true, true, true, true, true, true, true, true, true, true, true, true, true, true, true, true, false, false, false, false, false, false, false]) 17 rfl (by kernel_rfl) rfl (List.Sublist.cons_cons _ (List.Sublist.cons_cons _ (List.Sublist.cons _ (List.Sublist.refl _)))) rfl rfl (Yv.fieldAddr fld25_2 rfl) ?_
        refine DOps.only (listed' := #[true, true, true, true, true, true, true, true, true, true, true, true, true, true, true, true, true, true, true, false, false, false, false, false, false]) 18 rfl (by kernel_rfl) rfl rfl ?_
        refine One.store (i := 2) (off := 2) (vs := [_]) (cs' := [_, _, _, _, _, _, _]) (H' := [_, _, _, _, _]) lay3 rfl rfl rfl rfl rfl rfl rfl rfl rfl rfl ?_
        refine ⟨(List.Sublist.cons_cons _ (List.Sublist.cons_cons _ (List.Sublist.cons _ (List.Sublist.refl _)))), ?_⟩
        refine DOps.take (listed' := #[true, true, true, true, true, true, true, true, true, true, true, true, true, true, true, true, true, true, true, true, false, false, false, false, false]) 19 rfl (by kernel_rfl) rfl (List.Sublist.cons_cons _ (List.Sublist.cons_cons _ (List.Sublist.cons _ (List.Sublist.refl _)))) rfl rfl (Yv.fieldAddr fld25_3 rfl) ?_
        refine DOps.only (listed' := #[true, true, true, true, true, true, true, true, true, true, true, true, true, true, true, true, true, true, true, true, true, false, false, false, false]) 20 rfl (by kernel_rfl) rfl rfl ?_
        refine One.store (i := 2) (off := 3) (vs := [_]) (cs' := [_, _, _, _, _, _, _]) (H' := [_, _, _, _, _]) lay3 rfl rfl rfl rfl rfl rfl rfl rfl rfl rfl ?_
        refine ⟨(List.Sublist.cons_cons _ (List.Sublist.cons_cons _ (List.Sublist.cons _ (List.Sublist.refl _)))), ?_⟩
        refine DOps.take (listed' := #[true, true, true, true, true, true, true, true, true, true, true, true, true, true, true, true, true, true, true, true, true, true, false, false, false]) 21 rfl (by kernel_rfl) rfl (List.Sublist.cons_cons _ (List.Sublist.cons_cons _ (List.Sublist.cons _ (List.Sublist.refl _)))) rfl rfl (Yv.fieldAddr fld25_4 rfl) ?_
        refine DOps.only (listed' := #[true, true, true, true, true, true, true, true, true, true, true, true, true, true, true, true, true, true, true, true, true, true, true, false, false]) 22 rfl (by kernel_rfl) rfl rfl ?_
        refine One.store (i := 2) (off := 4) (vs := [_]) (cs' := [_, _, _, _, _, _, _]) (H' := [_, _, _, _, _]) lay3 rfl rfl rfl rfl rfl rfl rfl rfl rfl rfl ?_
        refine ⟨(List.Sublist.cons_cons _ (List.Sublist.cons_cons _ (List.Sublist.cons _ (List.Sublist.refl _)))), ?_⟩
        refine DOps.take (listed' := #[true, true, true, true, true, true, true, true, true, true, true, true, true, true, true, true, true, true, true, true, true, true, true, true, false]) 23 rfl (by kernel_rfl) rfl (List.Sublist.cons_cons _ (List.Sublist.cons_cons _ (List.Sublist.cons _ (List.Sublist.refl _)))) rfl rfl (Yv.fieldAddr fld25_5 rfl) ?_
        refine DOps.only (listed' := #[true, true, true, true, true, true, true, true, true, true, true, true, true, true, true, true, true, true, true, true, true, true, true, true, true]) 24 rfl (by kernel_rfl) rfl rfl ?_
        refine One.store (i := 2) (off := 5) (vs := [_]) (cs' := [_, _, _, _, _, _, _]) (H' := [_, _, _, _, _]) lay3 rfl rfl rfl rfl rfl rfl rfl rfl rfl rfl ?_
        refine ⟨(List.Sublist.cons_cons _ (List.Sublist.cons_cons _ (List.Sublist.cons _ (List.Sublist.refl _)))), ?_⟩
        refine DOps.done (by kernel_rfl) ?_
        refine Run.seq ?_
        refine Run.seq ?_
        refine Run.quiet (by intro h; cases h) ?_
        refine QOps.st rfl rfl (Yv.move rfl).yl ?_
        refine QOps.st rfl rfl (Yv.eqI rfl rfl).yl ?_
        refine QOps.nil ?_
        refine Run.cond rfl (fun hc5 => ?_) (fun hc5 => ?_)
        · try replace hc5 := of_decide_eq_true hc5
          refine Run.seq ?_
          refine Run.quiet (by intro h; cases h) ?_
          refine QOps.st rfl rfl (Yv.move rfl).yl ?_
          refine QOps.st rfl rfl (Yv.indexAddr 3 el53 rfl rfl rfl (Rd.row (i := 3) rfl) (by omega)).yl ?_
          refine QOps.st rfl rfl (Yv.loadE lay9 rfl strC_len (Rd.row (i := 3) rfl) (by first | omega | (simp; omega)) rfl).yl ?_
          refine QOps.st rfl rfl (Yl.call callable29 (.cons rfl (.nil)) (fun w' hw' => ParseInt_spec (hd.at hw'))) ?_
          refine QOps.st rfl rfl (Yv.move rfl).yl ?_
          refine QOps.st rfl rfl (Yv.extract rfl rfl).yl ?_
          refine QOps.st rfl rfl (Yv.extract rfl rfl).yl ?_
          refine QOps.st rfl rfl (Yv.assign rfl).yl ?_
          refine QOps.st rfl rfl (Yv.assign rfl).yl ?_
          refine QOps.nil ?_
          refine Run.seq ?_
          refine Run.seq ?_
          refine Run.quiet (by intro h; cases h) ?_
          refine QOps.st rfl rfl (Yv.move rfl).yl ?_
          refine QOps.st rfl rfl (Yv.not rfl).yl ?_
          refine QOps.nil ?_
          refine Run.cond rfl (fun hc6 => ?_) (fun hc6 => ?_)
          · try replace hc6 := of_decide_eq_true hc6
            have hz := value_no hat hc5 (by simpa using hc6)
            refine Run.seq ?_
            refine Run.ops ?_
            refine SOps.st rfl rfl (Yv.buildG (pv := []) (cs := [_, _, _, _, _, _, _]) (fun _ => [.int .i64 0, .int .i64 0, .int .i64 0, .int .i64 0, .int .i64 0, .int .i64 0, .int .i64 0]) .nil rfl rfl (by kernel_rfl)).yl ?_
            refine SOps.one rfl (One.store (i := 4) (off := 0) (vs := [_, _, _, _, _, _, _]) (cs' := [_, _, _, _, _, _, _]) (H' := [_, _, _, _, _]) lay25 rfl rfl rfl rfl rfl rfl rfl rfl rfl rfl ?_)
            refine SOps.st rfl rfl (Yv.assign rfl).yl ?_
            refine SOps.nil ?_
            refine Run.ret ?_
            refine retQ.of (.inr rfl) rfl (.cells (i := 4) rfl lay25 rfl rfl (.tmp rfl .nil)) (fun w' hw' => ?_)
            refine ⟨?_, hw'.bel.below⟩
            exact retNB_eq hz
          · try replace hc6 := of_decide_eq_false hc6
            refine Run.skip ?_
            refine Run.ops ?_
            refine SOps.st rfl rfl (Yv.move rfl).yl ?_
            refine SOps.st rfl rfl (Yv.fieldAddr fld25_6 rfl).yl ?_
            refine SOps.one rfl (One.store (i := 2) (off := 6) (vs := [_]) (cs' := [_, _, _, _, _, _, _]) (H' := [_, _, _, _, _]) lay3 rfl rfl rfl rfl rfl rfl rfl rfl rfl rfl ?_)
            refine SOps.nil ?_
            refine Run.seq ?_
            refine Run.seq ?_
            show Run _ _ _ _ _ _ [_, _, .blk _ _ (Notice.enc (⟨nth (numsL (wordsI l) [1, (k + 2), (k + 5), (k + 8), (k + 10)]) 0, kd, nth (numsL (wordsI l) [1, (k + 2), (k + 5), (k + 8), (k + 10)]) 1, nth (numsL (wordsI l) [1, (k + 2), (k + 5), (k + 8), (k + 10)]) 2, nth (numsL (wordsI l) [1, (k + 2), (k + 5), (k + 8), (k + 10)]) 3, nth (numsL (wordsI l) [1, (k + 2), (k + 5), (k + 8), (k + 10)]) 4, (readR (nth (wordsI l) (3))).1⟩ : Notice)), _, _] _
            refine Run.quiet (by intro h; cases h) ?_
            refine QOps.st rfl rfl (Yv.loadBs (i := 2) lay25 rfl rfl rfl rfl).yl ?_
            refine QOps.st rfl rfl (Yl.call callable22 (.cons rfl (.nil)) (fun w' hw' => isNotice_spec)) ?_
            refine QOps.st rfl rfl (Yv.not rfl).yl ?_
            refine QOps.st rfl rfl (Yv.move rfl).yl ?_
            refine' QOps.or [_, _, _, _] _ (.tmp 91) rfl rfl rfl rfl rfl rfl (fun hg2 => ?_) ?_
            rotate_left
            · try replace hg2 := of_decide_eq_false hg2
              have hok : noticeOk (⟨nth (numsL (wordsI l) [1, (k + 2), (k + 5), (k + 8), (k + 10)]) 0, kd, nth (numsL (wordsI l) [1, (k + 2), (k + 5), (k + 8), (k + 10)]) 1, nth (numsL (wordsI l) [1, (k + 2), (k + 5), (k + 8), (k + 10)]) 2, nth (numsL (wordsI l) [1, (k + 2), (k + 5), (k + 8), (k + 10)]) 3, nth (numsL (wordsI l) [1, (k + 2), (k + 5), (k + 8), (k + 10)]) 4, (readR (nth (wordsI l) (3))).1⟩ : Notice) = true := by simpa using hg2
              refine QOps.st rfl rfl (Yv.loadBs (i := 2) lay25 rfl rfl rfl rfl).yl ?_
              refine QOps.st rfl rfl (Yl.call callable23 (.cons rfl (.nil)) (fun w' hw' => noticeText_spec (tab_at htab hw') hok)) ?_
              refine QOps.st rfl rfl (Yv.move rfl).yl ?_
              refine QOps.st rfl rfl (Yv.strNe (a := (noteT (⟨nth (numsL (wordsI l) [1, (k + 2), (k + 5), (k + 8), (k + 10)]) 0, kd, nth (numsL (wordsI l) [1, (k + 2), (k + 5), (k + 8), (k + 10)]) 1, nth (numsL (wordsI l) [1, (k + 2), (k + 5), (k + 8), (k + 10)]) 2, nth (numsL (wordsI l) [1, (k + 2), (k + 5), (k + 8), (k + 10)]) 3, nth (numsL (wordsI l) [1, (k + 2), (k + 5), (k + 8), (k + 10)]) 4, (readR (nth (wordsI l) (3))).1⟩ : Notice))) (b := l) rfl rfl).yl ?_
              exact QOps.nil rfl
            refine QOps.nil ?_
            refine Run.cond rfl (fun hc7 => ?_) (fun hc7 => ?_)
            · try replace hc7 := of_decide_eq_true hc7
              have hz := final_no (note_5 hkd hat hc5) (by simpa using hc7)
              refine Run.seq ?_
              refine Run.ops ?_
              refine SOps.st rfl rfl (Yv.buildG (pv := []) (cs := [_, _, _, _, _, _, _]) (fun _ => [.int .i64 0, .int .i64 0, .int .i64 0, .int .i64 0, .int .i64 0, .int .i64 0, .int .i64 0]) .nil rfl rfl (by kernel_rfl)).yl ?_
              refine SOps.one rfl (One.store (i := 4) (off := 0) (vs := [_, _, _, _, _, _, _]) (cs' := [_, _, _, _, _, _, _]) (H' := [_, _, _, _, _]) lay25 rfl rfl rfl rfl rfl rfl rfl rfl rfl rfl ?_)
              refine SOps.st rfl rfl (Yv.assign rfl).yl ?_
              refine SOps.nil ?_
              refine Run.ret ?_
              refine retQ.of (.inr rfl) rfl (.cells (i := 4) rfl lay25 rfl rfl (.tmp rfl .nil)) (fun w' hw' => ?_)
              refine ⟨?_, hw'.bel.below⟩
              exact retNB_eq hz
            · try replace hc7 := of_decide_eq_false hc7
              have hz := final_yes (by simpa using hc7)
              refine Run.skip ?_
              refine Run.seq ?_
              refine Run.ops ?_
              refine SOps.st rfl rfl (Yv.loadBs (i := 2) lay25 rfl rfl rfl rfl).yl ?_
              refine SOps.one rfl (One.store (i := 4) (off := 0) (vs := [_, _, _, _, _, _, _]) (cs' := [_, _, _, _, _, _, _]) (H' := [_, _, _, _, _]) lay25 rfl rfl rfl rfl rfl rfl rfl rfl rfl rfl ?_)
              refine SOps.st rfl rfl (Yv.assign rfl).yl ?_
              refine SOps.nil ?_
              refine Run.ret ?_
              refine retQ.of (.inr rfl) rfl (.cells (i := 4) rfl lay25 rfl rfl (.tmp rfl .nil)) (fun w' hw' => ?_)
              refine ⟨?_, hw'.bel.below⟩
              exact retNB_eq hz
        · try replace hc5 := of_decide_eq_false hc5
          refine Run.skip ?_
          refine Run.seq ?_
          refine Run.seq ?_
          show Run _ _ _ _ _ _ [_, _, .blk _ _ (Notice.enc (⟨nth (numsL (wordsI l) [1, (k + 2), (k + 5), (k + 8), (k + 10)]) 0, kd, nth (numsL (wordsI l) [1, (k + 2), (k + 5), (k + 8), (k + 10)]) 1, nth (numsL (wordsI l) [1, (k + 2), (k + 5), (k + 8), (k + 10)]) 2, nth (numsL (wordsI l) [1, (k + 2), (k + 5), (k + 8), (k + 10)]) 3, nth (numsL (wordsI l) [1, (k + 2), (k + 5), (k + 8), (k + 10)]) 4, 0⟩ : Notice)), _, _] _
          refine Run.quiet (by intro h; cases h) ?_
          refine QOps.st rfl rfl (Yv.loadBs (i := 2) lay25 rfl rfl rfl rfl).yl ?_
          refine QOps.st rfl rfl (Yl.call callable22 (.cons rfl (.nil)) (fun w' hw' => isNotice_spec)) ?_
          refine QOps.st rfl rfl (Yv.not rfl).yl ?_
          refine QOps.st rfl rfl (Yv.move rfl).yl ?_
          refine' QOps.or [_, _, _, _] _ (.tmp 91) rfl rfl rfl rfl rfl rfl (fun hg3 => ?_) ?_
          rotate_left
          · try replace hg3 := of_decide_eq_false hg3
            have hok : noticeOk (⟨nth (numsL (wordsI l) [1, (k + 2), (k + 5), (k + 8), (k + 10)]) 0, kd, nth (numsL (wordsI l) [1, (k + 2), (k + 5), (k + 8), (k + 10)]) 1, nth (numsL (wordsI l) [1, (k + 2), (k + 5), (k + 8), (k + 10)]) 2, nth (numsL (wordsI l) [1, (k + 2), (k + 5), (k + 8), (k + 10)]) 3, nth (numsL (wordsI l) [1, (k + 2), (k + 5), (k + 8), (k + 10)]) 4, 0⟩ : Notice) = true := by simpa using hg3
            refine QOps.st rfl rfl (Yv.loadBs (i := 2) lay25 rfl rfl rfl rfl).yl ?_
            refine QOps.st rfl rfl (Yl.call callable23 (.cons rfl (.nil)) (fun w' hw' => noticeText_spec (tab_at htab hw') hok)) ?_
            refine QOps.st rfl rfl (Yv.move rfl).yl ?_
            refine QOps.st rfl rfl (Yv.strNe (a := (noteT (⟨nth (numsL (wordsI l) [1, (k + 2), (k + 5), (k + 8), (k + 10)]) 0, kd, nth (numsL (wordsI l) [1, (k + 2), (k + 5), (k + 8), (k + 10)]) 1, nth (numsL (wordsI l) [1, (k + 2), (k + 5), (k + 8), (k + 10)]) 2, nth (numsL (wordsI l) [1, (k + 2), (k + 5), (k + 8), (k + 10)]) 3, nth (numsL (wordsI l) [1, (k + 2), (k + 5), (k + 8), (k + 10)]) 4, 0⟩ : Notice))) (b := l) rfl rfl).yl ?_
            exact QOps.nil rfl
          refine QOps.nil ?_
          refine Run.cond rfl (fun hc8 => ?_) (fun hc8 => ?_)
          · try replace hc8 := of_decide_eq_true hc8
            have hz := final_no (note_3 hkd hat hc5) (by simpa using hc8)
            refine Run.seq ?_
            refine Run.ops ?_
            refine SOps.st rfl rfl (Yv.buildG (pv := []) (cs := [_, _, _, _, _, _, _]) (fun _ => [.int .i64 0, .int .i64 0, .int .i64 0, .int .i64 0, .int .i64 0, .int .i64 0, .int .i64 0]) .nil rfl rfl (by kernel_rfl)).yl ?_
            refine SOps.one rfl (One.store (i := 4) (off := 0) (vs := [_, _, _, _, _, _, _]) (cs' := [_, _, _, _, _, _, _]) (H' := [_, _, _, _, _]) lay25 rfl rfl rfl rfl rfl rfl rfl rfl rfl rfl ?_)
            refine SOps.st rfl rfl (Yv.assign rfl).yl ?_
            refine SOps.nil ?_
            refine Run.ret ?_
            refine retQ.of (.inr rfl) rfl (.cells (i := 4) rfl lay25 rfl rfl (.tmp rfl .nil)) (fun w' hw' => ?_)
            refine ⟨?_, hw'.bel.below⟩
            exact retNB_eq hz
          · try replace hc8 := of_decide_eq_false hc8
            have hz := final_yes (by simpa using hc8)
            refine Run.skip ?_
            refine Run.seq ?_
            refine Run.ops ?_
            refine SOps.st rfl rfl (Yv.loadBs (i := 2) lay25 rfl rfl rfl rfl).yl ?_
            refine SOps.one rfl (One.store (i := 4) (off := 0) (vs := [_, _, _, _, _, _, _]) (cs' := [_, _, _, _, _, _, _]) (H' := [_, _, _, _, _]) lay25 rfl rfl rfl rfl rfl rfl rfl rfl rfl rfl ?_)
            refine SOps.st rfl rfl (Yv.assign rfl).yl ?_
            refine SOps.nil ?_
            refine Run.ret ?_
            refine retQ.of (.inr rfl) rfl (.cells (i := 4) rfl lay25 rfl rfl (.tmp rfl .nil)) (fun w' hw' => ?_)
            refine ⟨?_, hw'.bel.below⟩
            exact retNB_eq hz
end Go.Proofs.YtjabeiolgghfdaaGreatDoor
