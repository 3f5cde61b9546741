/- The law FnReports, walked. Conditions: none. -/
import Derived.Test.YtlpgcbkialcjcaaGreatDoorZrY
namespace Go.Proofs.YtlpgcbkialcjcaaGreatDoor
open Go.RowKit
set_option maxRecDepth 100000
theorem parse_text {r : Report} (h : (textOf r).2 = true) : parseM (textOf r).1 = (r, true) := by
  unfold textOf at h ⊢
  split at h
  · rename_i h1
    rw [if_pos h1]
    exact parseM_back h1
  · cases h
theorem text_ok {r : Report} : (textOf r).2 = oneR r := by
  unfold textOf
  split
  · rename_i h
    exact h.symm
  · rename_i h
    simpa using h
theorem posR_lt {rs : List Report} {r : Report} {i : Nat} (h : i < posR rs r) : beforeR (nth rs i) r = true := by
  unfold posR at h
  cases hf : firstTo rs.length (fun k => !beforeR (nth rs k) r) with
  | some k =>
    rw [hf] at h
    have h2 := (firstTo_lt hf).2.2 i h
    simpa using h2
  | none =>
    rw [hf] at h
    simp only [firstTo, List.find?_eq_none, List.mem_range] at hf
    have h2 := hf i h
    simpa using h2
theorem before_self {r : Report} : beforeR r r = false := by simp [beforeR]
theorem nth_putl {rs : List Report} {r : Report} {i : Nat} (h : i < posR rs r) : nth (putR rs r) i = nth rs i := by
  have hl := posR_le (rs := rs) (r := r)
  unfold putR
  rw [nth, nth, List.getD_eq_getElem?_getD, List.getD_eq_getElem?_getD, List.append_assoc, List.getElem?_append_left (by simp; omega), List.getElem?_take_of_lt h]
theorem nth_putm {rs : List Report} {r : Report} : nth (putR rs r) (posR rs r) = r := by
  have hl := posR_le (rs := rs) (r := r)
  unfold putR
  rw [nth, List.getD_eq_getElem?_getD, List.append_assoc, List.getElem?_append_right (by rw [List.length_take]; omega), show posR rs r - (rs.take (posR rs r)).length = 0 by simp; omega]
  rfl
theorem found_put {rs : List Report} {r : Report} : foundR (putR rs r) r = true := by
  have hl := posR_le (rs := rs) (r := r)
  have hp : posR (putR rs r) r = posR rs r := posR_eq (by rw [putR_len]; omega) (fun i hi => by rw [nth_putl hi]; exact posR_lt hi) (by rw [nth_putm, before_self]; simp)
  unfold foundR
  rw [hp, nth_putm, before_self, putR_len, decide_eq_true (by omega)]
  rfl
/-- What is known of a file that a report was filed in. -/
structure Filed (rs : List Report) (r : Report) : Prop where
  is_ : isFile (fileOf rs r).1 = true
  ok : (fileOf (fileOf rs r).1 r).2.2 = true
  new : (fileOf (fileOf rs r).1 r).2.1 = false
  again : (fileOf (fileOf rs r).1 r).1 = (fileOf rs r).1
  more : (fileOf rs r).2.1 = true → (fileOf rs r).1.length = rs.length + 1
  old : (fileOf rs r).2.1 = false → (fileOf rs r).1 = rs
theorem filed {rs : List Report} {r : Report} (h : (fileOf rs r).2.2 = true) : Filed rs r := by
  by_cases hy : (isFile rs && oneR r) = true
  · have hy2 := hy
    rw [Bool.and_eq_true] at hy2
    by_cases hf : foundR rs r = true
    · have e := fileOf_found hy hf
      exact ⟨by rw [e]; exact hy2.1, by rw [e]; simp only [e], by rw [e]; simp only [e], by rw [e]; simp only [e], by rw [e]; simp, by rw [e]; simp⟩
    · have hf2 : foundR rs r = false := by simpa using hf
      by_cases hp : isFile (putR rs r) = true
      · have e := fileOf_put hy hf2 hp
        have e2 := fileOf_found (rs := putR rs r) (r := r) (by rw [hp, hy2.2]; rfl) found_put
        exact ⟨by rw [e]; exact hp, by rw [e]; simp only [e2], by rw [e]; simp only [e2], by rw [e]; simp only [e2], by rw [e]; exact fun _ => putR_len, by rw [e]; simp⟩
      · rw [fileOf_bad hy hf2 (by simpa using hp)] at h
        cases h
  · rw [fileOf_no (by simpa using hy)] at h
    cases h
theorem wayTo_at {rs : List Report} {v : Int} : ∀ {k : Nat}, v ∈ wayTo rs k → ∃ j, j < k ∧ departs rs j = true ∧ (nth rs j).vessel = v
  | 0, h => by simp [wayTo] at h
  | k + 1, h => by
    rw [wayTo] at h
    split at h
    · rename_i hd
      rcases List.mem_append.1 h with h | h
      · obtain ⟨j, h1, h2⟩ := wayTo_at h
        exact ⟨j, by omega, h2⟩
      · rw [List.mem_singleton] at h
        exact ⟨k, by omega, hd, h.symm⟩
    · obtain ⟨j, h1, h2⟩ := wayTo_at h
      exact ⟨j, by omega, h2⟩
/-- A vessel under way departed last. -/
theorem way_last {rs : List Report} {k : Nat} (h : k < (wayOf rs).length) : (lastOf rs (nth (wayOf rs) k)).2 = true ∧ (lastOf rs (nth (wayOf rs) k)).1.kind = 1 := by
  have hm : nth (wayOf rs) k ∈ wayOf rs := nth_mem h
  generalize nth (wayOf rs) k = v at hm
  unfold wayOf at hm
  split at hm
  · rename_i hf
    obtain ⟨j, h1, h2, rfl⟩ := wayTo_at hm
    simp only [departs, Bool.and_eq_true, decide_eq_true_eq] at h2
    unfold lastOf
    rw [h2.1, hf, if_neg (by simp)]
    exact ⟨rfl, by rw [Int.toNat_natCast]; exact h2.2⟩
  · simp at hm
theorem rFilesE_spec {w : World} {A A2 : Option Addr} {c c2 : Nat} {l l2 : List Report} (h : l2 = l) (hs : Sl w 6 A l.length c (l.flatMap Report.enc)) (hs2 : Sl w 6 A2 l2.length c2 (l2.flatMap Report.enc)) :
    Calls Tryz.prog 15 #[.slice A l.length c, .slice A2 l2.length c2] w (RetB w (.bool true)) := by
  subst h
  exact rFiles_spec hs hs2
theorem FnReports_spec {w : World} {A : Option Addr} {c : Nat} {xs : List UInt8} (hd : DoorW w) (hwords : Words w) (hs : Sl w 1 A xs.length c (xs.flatMap byteC)) (_hb : 1 * xs.length ≤ 281474976710656) : Calls Tryz.prog 3 #[.slice A xs.length c] w (RetB w (.bool true)) := by
  have htab := hd.tab
  refine calls_of_run (vs := [_]) (L := [(0, _)]) (n := 224) (F := []) (H := []) Tryz.func3 rfl rfl rfl rfl (HOk.start _) ?_
  refine Run.seq ?_
  refine Run.quiet (by intro h; cases h) ?_
  refine QOps.st rfl rfl (Yv.assign rfl).yl ?_
  refine QOps.nil ?_
  refine Run.seq ?_
  refine Run.seq ?_
  refine Run.quiet (by intro h; cases h) ?_
  refine QOps.st rfl rfl (Yv.move rfl).yl ?_
  refine QOps.st rfl rfl (Yl.call callable4 (.cons rfl (.nil)) (fun w' hw' => rBig_spec)) ?_
  refine QOps.nil ?_
  refine Run.cond rfl (fun hc1 => ?_) (fun hc1 => ?_)
  · try replace hc1 := of_decide_eq_true hc1
    refine Run.seq ?_
    refine Run.quiet (by intro h; cases h) ?_
    refine QOps.st rfl rfl (Yv.assign rfl).yl ?_
    refine QOps.nil ?_
    refine Run.ret ?_
    refine retQ.of (.inr rfl) rfl (.tmp rfl .nil) (fun w' hw' => ?_)
    refine ⟨?_, hw'.bel.below⟩
    exact rfl
  · try replace hc1 := of_decide_eq_false hc1
    refine Run.skip ?_
    refine Run.seq ?_
    refine Run.ops ?_
    refine SOps.st rfl rfl (Yv.move rfl).yl ?_
    refine SOps.one rfl (One.callE rfl callable5 (.cons rfl (.nil)) (fun w' hw' => DrawMessageOf_spec ((Rd.arg hs) w' hw')) (fun x1 _ => ?_))
    refine SOps.one rfl (One.alloc rfl zero25 (fun b1 => ?_))
    refine SOps.one rfl (One.store (i := 0) (off := 0) (vs := [_, _, _, _, _, _]) (cs' := [_, _, _, _, _, _]) (H' := [_]) lay25 rfl rfl rfl rfl rfl rfl rfl rfl rfl rfl ?_)
    refine SOps.nil ?_
    have htx := text_len (r := x1)
    refine Run.seq ?_
    refine Run.quiet (by intro h; cases h) ?_
    refine QOps.st rfl rfl (Yv.loadBs (i := 0) lay25 rfl rfl rfl rfl).yl ?_
    refine QOps.st rfl rfl (Yl.call callable6 (.cons rfl (.nil)) (fun w' hw' => MessageOf_spec (tab_at htab hw') (words_at hwords hw'))) ?_
    refine QOps.st rfl rfl (Yv.move rfl).yl ?_
    refine QOps.st rfl rfl (Yv.extract rfl rfl).yl ?_
    refine QOps.st rfl rfl (Yv.extract rfl rfl).yl ?_
    refine QOps.st rfl rfl (Yv.assign rfl).yl ?_
    refine QOps.st rfl rfl (Yv.assign rfl).yl ?_
    refine QOps.nil ?_
    refine Run.seq ?_
    refine Run.seq ?_
    refine Run.quiet (by intro h; cases h) ?_
    refine QOps.st rfl rfl (Yv.loadBs (i := 0) lay25 rfl rfl rfl rfl).yl ?_
    refine QOps.st rfl rfl (Yl.call callable7 (.cons rfl (.nil)) (fun w' hw' => sMessageOf_spec)) ?_
    refine QOps.st rfl rfl (Yv.move rfl).yl ?_
    refine QOps.st rfl rfl (Yv.extract rfl rfl).yl ?_
    refine QOps.st rfl rfl (Yv.extract rfl rfl).yl ?_
    refine QOps.st rfl rfl (Yv.assign rfl).yl ?_
    refine QOps.st rfl rfl (Yv.assign rfl).yl ?_
    refine QOps.nil ?_
    refine Run.seq ?_
    refine Run.quiet (by intro h; cases h) ?_
    refine QOps.st rfl rfl (Yv.move rfl).yl ?_
    refine QOps.st rfl rfl (Yv.move rfl).yl ?_
    refine QOps.st rfl rfl (Yv.strNe (a := (textOf x1).1) (b := (textOf x1).1) rfl rfl).yl ?_
    refine QOps.st rfl rfl (Yv.move rfl).yl ?_
    refine' QOps.or [_, _, _] _ (.tmp 54) rfl rfl rfl rfl rfl rfl (fun hg1 => ?_) ?_
    rotate_left
    · try replace hg1 := of_decide_eq_false hg1
      refine QOps.st rfl rfl (Yv.move rfl).yl ?_
      refine QOps.st rfl rfl (Yv.move rfl).yl ?_
      refine QOps.st rfl rfl (Yv.neB bool4 rfl rfl).yl ?_
      exact QOps.nil rfl
    refine QOps.st rfl rfl (Yv.move rfl).yl ?_
    refine' QOps.or [_, _, _, _] _ (.tmp 60) rfl rfl rfl rfl rfl rfl (fun hg2 => ?_) ?_
    rotate_left
    · try replace hg2 := of_decide_eq_false hg2
      refine QOps.st rfl rfl (Yv.move rfl).yl ?_
      refine QOps.st rfl rfl (Yv.loadBs (i := 0) lay25 rfl rfl rfl rfl).yl ?_
      refine QOps.st rfl rfl (Yl.call callable8 (.cons rfl (.nil)) (fun w' hw' => IsEReport_spec)) ?_
      refine QOps.st rfl rfl (Yv.neB bool4 rfl rfl).yl ?_
      exact QOps.nil rfl
    refine QOps.nil ?_
    refine Run.cond rfl (fun hc2 => ?_) (fun hc2 => ?_)
    · exfalso
      rw [text_ok] at hc2
      simp at hc2
    · try replace hc2 := of_decide_eq_false hc2
      refine Run.skip ?_
      refine Run.seq ?_
      refine Run.seq ?_
      refine Run.ops ?_
      refine SOps.st rfl rfl (Yv.move rfl).yl ?_
      refine SOps.st rfl rfl (Yl.call callable9 (.cons rfl (.nil)) (fun w' hw' => ParseMessage_spec (hd.at hw') (words_at hwords hw') (by omega))) ?_
      refine SOps.st rfl rfl (Yv.move rfl).yl ?_
      refine SOps.st rfl rfl (Yv.extract rfl rfl).yl ?_
      refine SOps.st rfl rfl (Yv.extract rfl rfl).yl ?_
      refine SOps.one rfl (One.alloc rfl zero25 (fun b2 => ?_))
      refine SOps.one rfl (One.store (i := 0) (off := 0) (vs := [_, _, _, _, _, _]) (cs' := [_, _, _, _, _, _]) (H' := [_, _]) lay25 rfl rfl rfl rfl rfl rfl rfl rfl rfl rfl ?_)
      refine SOps.st rfl rfl (Yv.assign rfl).yl ?_
      refine SOps.nil ?_
      refine Run.seq ?_
      refine Run.quiet (by intro h; cases h) ?_
      refine QOps.st rfl rfl (Yv.move rfl).yl ?_
      refine QOps.st rfl rfl (Yv.move rfl).yl ?_
      refine' QOps.and [_, _, _, _, _, _, _] _ (.tmp 75) rfl rfl rfl rfl rfl rfl (fun hg3 => ?_) ?_
      rotate_left
      · try replace hg3 := of_decide_eq_true hg3
        refine QOps.st rfl rfl (Yv.move rfl).yl ?_
        refine QOps.st rfl rfl (Yv.not rfl).yl ?_
        refine QOps.st rfl rfl (Yv.move rfl).yl ?_
        refine' QOps.or [_, _, _] _ (.tmp 74) rfl rfl rfl rfl rfl rfl (fun hg4 => ?_) ?_
        rotate_left
        · try replace hg4 := of_decide_eq_false hg4
          refine QOps.st rfl rfl (Yv.loadBs (i := 0) lay25 rfl rfl rfl rfl).yl ?_
          refine QOps.st rfl rfl (Yv.loadBs (i := 1) lay25 rfl rfl rfl rfl).yl ?_
          refine QOps.st rfl rfl (Yv.neS scal25 rfl rfl rfl rfl).yl ?_
          exact QOps.nil rfl
        exact QOps.nil rfl
      refine QOps.nil ?_
      refine Run.cond rfl (fun hc3 => ?_) (fun hc3 => ?_)
      · exfalso
        cases h8 : (textOf x1).2 with
        | false => rw [h8] at hc3; simp at hc3
        | true =>
          rw [h8, parse_text h8] at hc3
          simp [eqC] at hc3
      · try replace hc3 := of_decide_eq_false hc3
        refine Run.skip ?_
        refine Run.seq ?_
        refine Run.ops ?_
        refine SOps.st rfl rfl (Yv.move rfl).yl ?_
        refine SOps.one rfl (One.callE rfl callable10 (.cons rfl (.nil)) (fun w' hw' => DrawParseMessage_spec ((Rd.arg hs) w' hw')) (fun x2 hx2 => ?_))
        refine SOps.st rfl rfl (Yv.assign rfl).yl ?_
        refine SOps.nil ?_
        refine Run.seq ?_
        refine Run.ops ?_
        refine SOps.st rfl rfl (Yv.move rfl).yl ?_
        refine SOps.st rfl rfl (Yl.call callable9 (.cons rfl (.nil)) (fun w' hw' => ParseMessage_spec (hd.at hw') (words_at hwords hw') (by omega))) ?_
        refine SOps.st rfl rfl (Yv.move rfl).yl ?_
        refine SOps.st rfl rfl (Yv.extract rfl rfl).yl ?_
        refine SOps.st rfl rfl (Yv.extract rfl rfl).yl ?_
        refine SOps.one rfl (One.alloc rfl zero25 (fun b3 => ?_))
        refine SOps.one rfl (One.store (i := 0) (off := 0) (vs := [_, _, _, _, _, _]) (cs' := [_, _, _, _, _, _]) (H' := [_, _, _]) lay25 rfl rfl rfl rfl rfl rfl rfl rfl rfl rfl ?_)
        refine SOps.st rfl rfl (Yv.assign rfl).yl ?_
        refine SOps.nil ?_
        refine Run.seq ?_
        refine Run.seq ?_
        refine Run.ops ?_
        refine SOps.st rfl rfl (Yv.move rfl).yl ?_
        refine SOps.st rfl rfl (Yl.call callable11 (.cons rfl (.nil)) (fun w' hw' => sParseMessage_spec (by omega))) ?_
        refine SOps.st rfl rfl (Yv.move rfl).yl ?_
        refine SOps.st rfl rfl (Yv.extract rfl rfl).yl ?_
        refine SOps.st rfl rfl (Yv.extract rfl rfl).yl ?_
        refine SOps.one rfl (One.alloc rfl zero25 (fun b4 => ?_))
        refine SOps.one rfl (One.store (i := 0) (off := 0) (vs := [_, _, _, _, _, _]) (cs' := [_, _, _, _, _, _]) (H' := [_, _, _, _]) lay25 rfl rfl rfl rfl rfl rfl rfl rfl rfl rfl ?_)
        refine SOps.st rfl rfl (Yv.assign rfl).yl ?_
        refine SOps.nil ?_
        refine Run.seq ?_
        refine Run.quiet (by intro h; cases h) ?_
        refine QOps.st rfl rfl (Yv.loadBs (i := 1) lay25 rfl rfl rfl rfl).yl ?_
        refine QOps.st rfl rfl (Yv.loadBs (i := 0) lay25 rfl rfl rfl rfl).yl ?_
        refine QOps.st rfl rfl (Yv.neS scal25 rfl rfl rfl rfl).yl ?_
        refine QOps.st rfl rfl (Yv.move rfl).yl ?_
        refine' QOps.or [_, _, _] _ (.tmp 95) rfl rfl rfl rfl rfl rfl (fun hg5 => ?_) ?_
        rotate_left
        · try replace hg5 := of_decide_eq_false hg5
          refine QOps.st rfl rfl (Yv.move rfl).yl ?_
          refine QOps.st rfl rfl (Yv.move rfl).yl ?_
          refine QOps.st rfl rfl (Yv.neB bool4 rfl rfl).yl ?_
          exact QOps.nil rfl
        refine QOps.nil ?_
        refine Run.cond rfl (fun hc4 => ?_) (fun hc4 => ?_)
        · exfalso
          simp [eqC, Report.enc] at hc4
        · try replace hc4 := of_decide_eq_false hc4
          refine Run.skip ?_
          refine Run.seq ?_
          refine Run.ops ?_
          refine SOps.st rfl rfl (Yv.move rfl).yl ?_
          refine SOps.one rfl (One.callER rfl callable12 (.cons rfl (.nil)) (fun w' hw' => DrawFileReport_spec ((Rd.arg hs) w' hw')) ?_)
          rintro ⟨ya3, yb3⟩ Aq3 cq3 hx3
          try dsimp only at *
          refine SOps.st rfl rfl (Yv.move rfl).yl ?_
          refine SOps.st rfl rfl (Yv.extract rfl rfl).yl ?_
          refine SOps.st rfl rfl (Yv.extract rfl rfl).yl ?_
          refine SOps.one rfl (One.alloc rfl zero25 (fun b5 => ?_))
          refine SOps.st rfl rfl (Yv.assign rfl).yl ?_
          refine SOps.one rfl (One.store (i := 0) (off := 0) (vs := [_, _, _, _, _, _]) (cs' := [_, _, _, _, _, _]) (H' := [_, _, _, _, _, _]) lay25 rfl rfl rfl rfl rfl rfl rfl rfl rfl rfl ?_)
          refine SOps.nil ?_
          refine Run.seq ?_
          refine Run.ops ?_
          refine SOps.st rfl rfl (Yv.move rfl).yl ?_
          refine SOps.st rfl rfl (Yv.loadBs (i := 0) lay25 rfl rfl rfl rfl).yl ?_
          refine SOps.one rfl (One.callRow rfl callable13 (.cons rfl (.cons rfl (.nil))) (fun w' hw' => FileReport_spec ((Rd.row (i := 1) rfl) w' hw') (by omega)) (fun A1 c1 => ?_))
          refine SOps.st rfl rfl (Yv.move rfl).yl ?_
          refine SOps.st rfl rfl (Yv.extract rfl rfl).yl ?_
          refine SOps.st rfl rfl (Yv.extract rfl rfl).yl ?_
          refine SOps.st rfl rfl (Yv.extract rfl rfl).yl ?_
          refine SOps.st rfl rfl (Yv.assign rfl).yl ?_
          refine SOps.st rfl rfl (Yv.assign rfl).yl ?_
          refine SOps.st rfl rfl (Yv.assign rfl).yl ?_
          refine SOps.nil ?_
          have hgl := fileOf_len (rs := ya3) (r := yb3)
          refine Run.seq ?_
          refine Run.seq ?_
          refine Run.ops ?_
          refine SOps.st rfl rfl (Yv.move rfl).yl ?_
          refine SOps.st rfl rfl (Yv.loadBs (i := 1) lay25 rfl rfl rfl rfl).yl ?_
          refine SOps.one rfl (One.callRow rfl callable14 (.cons rfl (.cons rfl (.nil))) (fun w' hw' => sFileReport_spec ((Rd.row (i := 2) rfl) w' hw') (by omega)) (fun A2 c2 => ?_))
          refine SOps.st rfl rfl (Yv.move rfl).yl ?_
          refine SOps.st rfl rfl (Yv.extract rfl rfl).yl ?_
          refine SOps.st rfl rfl (Yv.extract rfl rfl).yl ?_
          refine SOps.st rfl rfl (Yv.extract rfl rfl).yl ?_
          refine SOps.st rfl rfl (Yv.assign rfl).yl ?_
          refine SOps.st rfl rfl (Yv.assign rfl).yl ?_
          refine SOps.st rfl rfl (Yv.assign rfl).yl ?_
          refine SOps.nil ?_
          refine Run.seq ?_
          refine Run.quiet (by intro h; cases h) ?_
          refine QOps.st rfl rfl (Yv.move rfl).yl ?_
          refine QOps.st rfl rfl (Yv.move rfl).yl ?_
          refine QOps.st rfl rfl (Yv.neB bool4 rfl rfl).yl ?_
          refine QOps.st rfl rfl (Yv.move rfl).yl ?_
          refine' QOps.or [_, _, _] _ (.tmp 122) rfl rfl rfl rfl rfl rfl (fun hg6 => ?_) ?_
          rotate_left
          · try replace hg6 := of_decide_eq_false hg6
            refine QOps.st rfl rfl (Yv.move rfl).yl ?_
            refine QOps.st rfl rfl (Yv.move rfl).yl ?_
            refine QOps.st rfl rfl (Yv.neB bool4 rfl rfl).yl ?_
            exact QOps.nil rfl
          refine QOps.st rfl rfl (Yv.move rfl).yl ?_
          refine' QOps.or [_, _, _, _] _ (.tmp 128) rfl rfl rfl rfl rfl rfl (fun hg7 => ?_) ?_
          rotate_left
          · try replace hg7 := of_decide_eq_false hg7
            refine QOps.st rfl rfl (Yv.move rfl).yl ?_
            refine QOps.st rfl rfl (Yv.move rfl).yl ?_
            refine QOps.st rfl rfl (Yl.call callable15 (.cons rfl (.cons rfl (.nil))) (fun w' hw' => rFilesE_spec (by first | rfl | exact hfd.again.symm | exact hold.symm) ((Rd.row (i := 1) rfl) w' hw') ((Rd.row (i := 0) rfl) w' hw'))) ?_
            refine QOps.st rfl rfl (Yv.not rfl).yl ?_
            exact QOps.nil rfl
          refine QOps.nil ?_
          refine Run.cond rfl (fun hc5 => ?_) (fun hc5 => ?_)
          · exfalso
            simp at hc5
          · try replace hc5 := of_decide_eq_false hc5
            refine Run.skip ?_
            refine Run.seq ?_
            refine Run.seq ?_
            refine Run.quiet (by intro h; cases h) ?_
            refine QOps.st rfl rfl (Yv.move rfl).yl ?_
            refine QOps.nil ?_
            refine Run.cond rfl (fun hc6 => ?_) (fun hc6 => ?_)
            · try replace hc6 := of_decide_eq_true hc6
              have hfd := filed hc6
              refine Run.seq ?_
              refine Run.ops ?_
              refine SOps.st rfl rfl (Yv.move rfl).yl ?_
              refine SOps.st rfl rfl (Yv.loadBs (i := 2) lay25 rfl rfl rfl rfl).yl ?_
              refine SOps.one rfl (One.callRow rfl callable13 (.cons rfl (.cons rfl (.nil))) (fun w' hw' => FileReport_spec ((Rd.row (i := 1) rfl) w' hw') (by omega)) (fun A3 c3 => ?_))
              refine SOps.st rfl rfl (Yv.move rfl).yl ?_
              refine SOps.st rfl rfl (Yv.extract rfl rfl).yl ?_
              refine SOps.st rfl rfl (Yv.extract rfl rfl).yl ?_
              refine SOps.st rfl rfl (Yv.extract rfl rfl).yl ?_
              refine SOps.st rfl rfl (Yv.assign rfl).yl ?_
              refine SOps.st rfl rfl (Yv.assign rfl).yl ?_
              refine SOps.st rfl rfl (Yv.assign rfl).yl ?_
              refine SOps.nil ?_
              refine Run.seq ?_
              refine Run.quiet (by intro h; cases h) ?_
              refine QOps.st rfl rfl (Yv.move rfl).yl ?_
              refine QOps.st rfl rfl (Yv.not rfl).yl ?_
              refine QOps.st rfl rfl (Yv.move rfl).yl ?_
              refine' QOps.or [_] _ (.tmp 141) rfl rfl rfl rfl rfl rfl (fun hg8 => ?_) ?_
              rotate_left
              · try replace hg8 := of_decide_eq_false hg8
                refine QOps.st rfl rfl (Yv.move rfl).yl ?_
                exact QOps.nil rfl
              refine QOps.st rfl rfl (Yv.move rfl).yl ?_
              refine' QOps.or [_, _, _, _] _ (.tmp 147) rfl rfl rfl rfl rfl rfl (fun hg9 => ?_) ?_
              rotate_left
              · try replace hg9 := of_decide_eq_false hg9
                refine QOps.st rfl rfl (Yv.move rfl).yl ?_
                refine QOps.st rfl rfl (Yv.move rfl).yl ?_
                refine QOps.st rfl rfl (Yl.call callable15 (.cons rfl (.cons rfl (.nil))) (fun w' hw' => rFilesE_spec (by first | rfl | exact hfd.again.symm | exact hold.symm) ((Rd.row (i := 0) rfl) w' hw') ((Rd.row (i := 2) rfl) w' hw'))) ?_
                refine QOps.st rfl rfl (Yv.not rfl).yl ?_
                exact QOps.nil rfl
              refine QOps.st rfl rfl (Yv.move rfl).yl ?_
              refine' QOps.or [_, _, _, _, _, _, _, _, _] _ (.tmp 158) rfl rfl rfl rfl rfl rfl (fun hg10 => ?_) ?_
              rotate_left
              · try replace hg10 := of_decide_eq_false hg10
                refine QOps.st rfl rfl (Yv.move rfl).yl ?_
                refine QOps.st rfl rfl (Yv.move rfl).yl ?_
                refine' QOps.and [_, _, _, _, _, _] _ (.tmp 157) rfl rfl rfl rfl rfl rfl (fun hg11 => ?_) ?_
                rotate_left
                · try replace hg11 := of_decide_eq_true hg11
                  refine QOps.st rfl rfl (Yv.move rfl).yl ?_
                  refine QOps.st rfl rfl (Yv.lenS el33s rfl).yl ?_
                  refine QOps.st rfl rfl (Yv.move rfl).yl ?_
                  refine QOps.st rfl rfl (Yv.lenS el33s rfl).yl ?_
                  refine QOps.st rfl rfl (Yv.succN rfl rfl (by omega)).yl ?_
                  refine QOps.st rfl rfl (Yv.neI rfl rfl).yl ?_
                  exact QOps.nil rfl
                exact QOps.nil rfl
              refine QOps.st rfl rfl (Yv.move rfl).yl ?_
              refine' QOps.or [_, _, _, _, _, _, _, _] _ (.tmp 168) rfl rfl rfl rfl rfl rfl (fun hg12 => ?_) ?_
              rotate_left
              · try replace hg12 := of_decide_eq_false hg12
                refine QOps.st rfl rfl (Yv.move rfl).yl ?_
                refine QOps.st rfl rfl (Yv.not rfl).yl ?_
                refine QOps.st rfl rfl (Yv.move rfl).yl ?_
                refine' QOps.and [_, _, _, _] _ (.tmp 167) rfl rfl rfl rfl rfl rfl (fun hg13 => ?_) ?_
                rotate_left
                · try replace hg13 := of_decide_eq_true hg13
                  have hold := hfd.old (by simpa using hg13)
                  refine QOps.st rfl rfl (Yv.move rfl).yl ?_
                  refine QOps.st rfl rfl (Yv.move rfl).yl ?_
                  refine QOps.st rfl rfl (Yl.call callable15 (.cons rfl (.cons rfl (.nil))) (fun w' hw' => rFilesE_spec (by first | rfl | exact hfd.again.symm | exact hold.symm) ((Rd.row (i := 2) rfl) w' hw') ((Rd.row (i := 4) rfl) w' hw'))) ?_
                  refine QOps.st rfl rfl (Yv.not rfl).yl ?_
                  exact QOps.nil rfl
                exact QOps.nil rfl
              refine QOps.st rfl rfl (Yv.move rfl).yl ?_
              refine' QOps.or [_, _, _] _ (.tmp 173) rfl rfl rfl rfl rfl rfl (fun hg14 => ?_) ?_
              rotate_left
              · try replace hg14 := of_decide_eq_false hg14
                refine QOps.st rfl rfl (Yv.move rfl).yl ?_
                refine QOps.st rfl rfl (Yl.call callable16 (.cons rfl (.nil)) (fun w' hw' => IsFile_spec ((Rd.row (i := 2) rfl) w' hw'))) ?_
                refine QOps.st rfl rfl (Yv.not rfl).yl ?_
                exact QOps.nil rfl
              refine QOps.nil ?_
              refine Run.cond rfl (fun hc7 => ?_) (fun hc7 => ?_)
              · exfalso
                rw [hfd.is_, hfd.ok, hfd.new] at hc7
                cases h8 : (fileOf ya3 yb3).2.1 with
                | false => rw [h8] at hc7; simp at hc7
                | true =>
                  have h9 := hfd.more h8
                  rw [h8] at hc7
                  simp at hc7
                  omega
              · try replace hc7 := of_decide_eq_false hc7
                refine Run.skip ?_
                refine Run.seq ?_
                refine Run.ops ?_
                refine SOps.st rfl rfl (Yv.move rfl).yl ?_
                refine SOps.one rfl (One.callER rfl callable17 (.cons rfl (.nil)) (fun w' hw' => DrawIsFile_spec ((Rd.arg hs) w' hw')) ?_)
                rintro ya4 Aq4 cq4 hx4
                try dsimp only at *
                refine SOps.st rfl rfl (Yv.assign rfl).yl ?_
                refine SOps.nil ?_
                refine Run.seq ?_
                refine Run.ops ?_
                refine SOps.st rfl rfl (Yv.move rfl).yl ?_
                refine SOps.one rfl (One.callRow rfl callable18 (.cons rfl (.nil)) (fun w' hw' => UnderWay_spec ((Rd.row (i := 0) rfl) w' hw') (by omega)) (fun A4 c4 => ?_))
                refine SOps.st rfl rfl (Yv.move rfl).yl ?_
                refine SOps.st rfl rfl (Yv.extract rfl rfl).yl ?_
                refine SOps.st rfl rfl (Yv.extract rfl rfl).yl ?_
                refine SOps.st rfl rfl (Yv.assign rfl).yl ?_
                refine SOps.st rfl rfl (Yv.assign rfl).yl ?_
                refine SOps.nil ?_
                refine Run.seq ?_
                refine Run.seq ?_
                refine Run.ops ?_
                refine SOps.st rfl rfl (Yv.move rfl).yl ?_
                refine SOps.one rfl (One.callRow rfl callable19 (.cons rfl (.nil)) (fun w' hw' => sUnderWay_spec ((Rd.row (i := 1) rfl) w' hw') (by omega)) (fun A5 c5 => ?_))
                refine SOps.st rfl rfl (Yv.move rfl).yl ?_
                refine SOps.st rfl rfl (Yv.extract rfl rfl).yl ?_
                refine SOps.st rfl rfl (Yv.extract rfl rfl).yl ?_
                refine SOps.st rfl rfl (Yv.assign rfl).yl ?_
                refine SOps.st rfl rfl (Yv.assign rfl).yl ?_
                refine SOps.nil ?_
                refine Run.seq ?_
                refine Run.quiet (by intro h; cases h) ?_
                refine QOps.st rfl rfl (Yv.move rfl).yl ?_
                refine QOps.st rfl rfl (Yv.move rfl).yl ?_
                refine QOps.st rfl rfl (Yv.neB bool4 rfl rfl).yl ?_
                refine QOps.st rfl rfl (Yv.move rfl).yl ?_
                refine' QOps.or [_, _, _, _] _ (.tmp 194) rfl rfl rfl rfl rfl rfl (fun hg15 => ?_) ?_
                rotate_left
                · try replace hg15 := of_decide_eq_false hg15
                  refine QOps.st rfl rfl (Yv.move rfl).yl ?_
                  refine QOps.st rfl rfl (Yv.move rfl).yl ?_
                  refine QOps.st rfl rfl (Yl.call callable20 (.cons rfl (.cons rfl (.nil))) (fun w' hw' => rInts_spec ((Rd.row (i := 1) rfl) w' hw') ((Rd.row (i := 0) rfl) w' hw'))) ?_
                  refine QOps.st rfl rfl (Yv.not rfl).yl ?_
                  exact QOps.nil rfl
                refine QOps.st rfl rfl (Yv.move rfl).yl ?_
                refine' QOps.or [_, _, _, _] _ (.tmp 200) rfl rfl rfl rfl rfl rfl (fun hg16 => ?_) ?_
                rotate_left
                · try replace hg16 := of_decide_eq_false hg16
                  refine QOps.st rfl rfl (Yv.move rfl).yl ?_
                  refine QOps.st rfl rfl (Yv.move rfl).yl ?_
                  refine QOps.st rfl rfl (Yl.call callable16 (.cons rfl (.nil)) (fun w' hw' => IsFile_spec ((Rd.row (i := 2) rfl) w' hw'))) ?_
                  refine QOps.st rfl rfl (Yv.neB bool4 rfl rfl).yl ?_
                  exact QOps.nil rfl
                refine QOps.nil ?_
                refine Run.cond rfl (fun hc8 => ?_) (fun hc8 => ?_)
                · exfalso
                  simp at hc8
                · try replace hc8 := of_decide_eq_false hc8
                  refine Run.skip ?_
                  refine Run.seq ?_
                  refine Run.seq ?_
                  refine Run.quiet (by intro h; cases h) ?_
                  refine QOps.st rfl rfl (Yv.assign rfl).yl ?_
                  refine QOps.nil ?_
                  refine Run.block ?_
                  refine Run.loop (S := Nat) (fun s => match s with | k => k ≤ (wayOf ya4).length) (fun s => match s with | k => [(26, .slice Aq4 ya4.length cq4), (27, .slice A4 ((wayOf ya4).length) c4), (31, .int .i64 (k : Int))]) (fun s => match s with | k => [.row A4 c4 3 1 (wayOf ya4).length ((wayOf ya4).flatMap intC), .row Aq4 cq4 25 6 ya4.length (ya4.flatMap Report.enc)]) (fun s => match s with | k => (wayOf ya4).length - k) 0 ?_ (SubE.cons rfl (SubE.cons rfl (SubE.cons rfl (SubE.nil _)))) (List.Sublist.cons _ (List.Sublist.cons_cons _ (List.Sublist.cons_cons _ (List.nil_sublist _)))) ?_
                  · exact Nat.zero_le _
                  · rintro k hk
                    show Run _ _ _ _ _ [(26, .slice Aq4 ya4.length cq4), (27, .slice A4 ((wayOf ya4).length) c4), (31, .int .i64 (k : Int))] [.row A4 c4 3 1 (wayOf ya4).length ((wayOf ya4).flatMap intC), .row Aq4 cq4 25 6 ya4.length (ya4.flatMap Report.enc)] _
                    refine Run.seq ?_
                    refine Run.seq ?_
                    refine Run.quiet (by intro h; cases h) ?_
                    refine QOps.st rfl rfl (Yv.move rfl).yl ?_
                    refine QOps.st rfl rfl (Yv.move rfl).yl ?_
                    refine QOps.st rfl rfl (Yv.lenS el41s rfl).yl ?_
                    refine QOps.st rfl rfl (Yv.lss rfl rfl).yl ?_
                    refine QOps.nil ?_
                    refine Run.cond rfl (fun hc9 => ?_) (fun hc9 => ?_)
                    · try replace hc9 := of_decide_eq_true hc9
                      have hwn := wayOf_len (rs := ya4)
                      have hwl := way_last (rs := ya4) (k := k) (by omega)
                      refine Run.skip ?_
                      refine Run.seq ?_
                      refine Run.block ?_
                      refine Run.seq ?_
                      refine Run.ops ?_
                      refine SOps.st rfl rfl (Yv.move rfl).yl ?_
                      refine SOps.st rfl rfl (Yv.move rfl).yl ?_
                      refine SOps.st rfl rfl (Yv.move rfl).yl ?_
                      refine SOps.st rfl rfl (Yv.indexAddr k el41 rfl rfl rfl (Rd.row (i := 0) rfl) (by omega)).yl ?_
                      refine SOps.st rfl rfl (Yv.loadE lay3 rfl intC_len (Rd.row (i := 0) rfl) (by first | omega | (simp; omega)) rfl).yl ?_
                      refine SOps.st rfl rfl (Yl.call callable21 (.cons rfl (.cons rfl (.nil))) (fun w' hw' => LastReport_spec ((Rd.row (i := 1) rfl) w' hw'))) ?_
                      refine SOps.st rfl rfl (Yv.move rfl).yl ?_
                      refine SOps.st rfl rfl (Yv.extract rfl rfl).yl ?_
                      refine SOps.st rfl rfl (Yv.extract rfl rfl).yl ?_
                      refine SOps.one rfl (One.alloc rfl zero25 (fun b6 => ?_))
                      refine SOps.one rfl (One.store (i := 0) (off := 0) (vs := [_, _, _, _, _, _]) (cs' := [_, _, _, _, _, _]) (H' := [_, _, _]) lay25 rfl rfl rfl rfl rfl rfl rfl rfl rfl rfl ?_)
                      refine SOps.st rfl rfl (Yv.assign rfl).yl ?_
                      refine SOps.nil ?_
                      refine Run.seq ?_
                      refine Run.quiet (by intro h; cases h) ?_
                      refine QOps.st rfl rfl (Yv.move rfl).yl ?_
                      refine QOps.st rfl rfl (Yv.not rfl).yl ?_
                      refine QOps.st rfl rfl (Yv.move rfl).yl ?_
                      refine' QOps.or [_, _, _] _ (.tmp 222) rfl rfl rfl rfl rfl rfl (fun hg17 => ?_) ?_
                      rotate_left
                      · try replace hg17 := of_decide_eq_false hg17
                        refine QOps.st rfl rfl (Yv.fieldAddr fld25_2 rfl).yl ?_
                        refine QOps.st rfl rfl (Yv.loadB (i := 0) lay3 rfl rfl rfl rfl).yl ?_
                        refine QOps.st rfl rfl (Yv.neI rfl rfl).yl ?_
                        exact QOps.nil rfl
                      refine QOps.nil ?_
                      refine Run.cond rfl (fun hc10 => ?_) (fun hc10 => ?_)
                      · exfalso
                        rw [hwl.1, hwl.2] at hc10
                        simp at hc10
                      · try replace hc10 := of_decide_eq_false hc10
                        refine Run.skip ?_
                        refine Run.quiet (by intro h; cases h) ?_
                        refine QOps.st rfl rfl (Yv.move rfl).yl ?_
                        refine QOps.st rfl rfl (Yv.succN rfl rfl (by omega)).yl ?_
                        refine QOps.st rfl rfl (Yv.assign rfl).yl ?_
                        refine QOps.nil ?_
                        refine ⟨k + 1, ?_, ?_, (SubE.cons rfl (SubE.cons rfl (SubE.cons rfl (SubE.nil _)))), (List.Sublist.cons _ (List.Sublist.refl _))⟩
                        · show k + 1 ≤ _; omega
                        · first | omega | (dsimp only; omega)
                    · try replace hc9 := of_decide_eq_false hc9
                      refine Run.exit ?_
                      refine Run.seq ?_
                      refine Run.quiet (by intro h; cases h) ?_
                      refine QOps.st rfl rfl (Yv.assign rfl).yl ?_
                      refine QOps.nil ?_
                      refine Run.ret ?_
                      refine retQ.of (.inr rfl) rfl (.tmp rfl .nil) (fun w' hw' => ?_)
                      refine ⟨?_, hw'.bel.below⟩
                      exact rfl
            · try replace hc6 := of_decide_eq_false hc6
              refine Run.skip ?_
              refine Run.seq ?_
              refine Run.ops ?_
              refine SOps.st rfl rfl (Yv.move rfl).yl ?_
              refine SOps.one rfl (One.callER rfl callable17 (.cons rfl (.nil)) (fun w' hw' => DrawIsFile_spec ((Rd.arg hs) w' hw')) ?_)
              rintro ya5 Aq5 cq5 hx5
              try dsimp only at *
              refine SOps.st rfl rfl (Yv.assign rfl).yl ?_
              refine SOps.nil ?_
              refine Run.seq ?_
              refine Run.ops ?_
              refine SOps.st rfl rfl (Yv.move rfl).yl ?_
              refine SOps.one rfl (One.callRow rfl callable18 (.cons rfl (.nil)) (fun w' hw' => UnderWay_spec ((Rd.row (i := 0) rfl) w' hw') (by omega)) (fun A6 c6 => ?_))
              refine SOps.st rfl rfl (Yv.move rfl).yl ?_
              refine SOps.st rfl rfl (Yv.extract rfl rfl).yl ?_
              refine SOps.st rfl rfl (Yv.extract rfl rfl).yl ?_
              refine SOps.st rfl rfl (Yv.assign rfl).yl ?_
              refine SOps.st rfl rfl (Yv.assign rfl).yl ?_
              refine SOps.nil ?_
              refine Run.seq ?_
              refine Run.seq ?_
              refine Run.ops ?_
              refine SOps.st rfl rfl (Yv.move rfl).yl ?_
              refine SOps.one rfl (One.callRow rfl callable19 (.cons rfl (.nil)) (fun w' hw' => sUnderWay_spec ((Rd.row (i := 1) rfl) w' hw') (by omega)) (fun A7 c7 => ?_))
              refine SOps.st rfl rfl (Yv.move rfl).yl ?_
              refine SOps.st rfl rfl (Yv.extract rfl rfl).yl ?_
              refine SOps.st rfl rfl (Yv.extract rfl rfl).yl ?_
              refine SOps.st rfl rfl (Yv.assign rfl).yl ?_
              refine SOps.st rfl rfl (Yv.assign rfl).yl ?_
              refine SOps.nil ?_
              refine Run.seq ?_
              refine Run.quiet (by intro h; cases h) ?_
              refine QOps.st rfl rfl (Yv.move rfl).yl ?_
              refine QOps.st rfl rfl (Yv.move rfl).yl ?_
              refine QOps.st rfl rfl (Yv.neB bool4 rfl rfl).yl ?_
              refine QOps.st rfl rfl (Yv.move rfl).yl ?_
              refine' QOps.or [_, _, _, _] _ (.tmp 194) rfl rfl rfl rfl rfl rfl (fun hg18 => ?_) ?_
              rotate_left
              · try replace hg18 := of_decide_eq_false hg18
                refine QOps.st rfl rfl (Yv.move rfl).yl ?_
                refine QOps.st rfl rfl (Yv.move rfl).yl ?_
                refine QOps.st rfl rfl (Yl.call callable20 (.cons rfl (.cons rfl (.nil))) (fun w' hw' => rInts_spec ((Rd.row (i := 1) rfl) w' hw') ((Rd.row (i := 0) rfl) w' hw'))) ?_
                refine QOps.st rfl rfl (Yv.not rfl).yl ?_
                exact QOps.nil rfl
              refine QOps.st rfl rfl (Yv.move rfl).yl ?_
              refine' QOps.or [_, _, _, _] _ (.tmp 200) rfl rfl rfl rfl rfl rfl (fun hg19 => ?_) ?_
              rotate_left
              · try replace hg19 := of_decide_eq_false hg19
                refine QOps.st rfl rfl (Yv.move rfl).yl ?_
                refine QOps.st rfl rfl (Yv.move rfl).yl ?_
                refine QOps.st rfl rfl (Yl.call callable16 (.cons rfl (.nil)) (fun w' hw' => IsFile_spec ((Rd.row (i := 2) rfl) w' hw'))) ?_
                refine QOps.st rfl rfl (Yv.neB bool4 rfl rfl).yl ?_
                exact QOps.nil rfl
              refine QOps.nil ?_
              refine Run.cond rfl (fun hc11 => ?_) (fun hc11 => ?_)
              · exfalso
                simp at hc11
              · try replace hc11 := of_decide_eq_false hc11
                refine Run.skip ?_
                refine Run.seq ?_
                refine Run.seq ?_
                refine Run.quiet (by intro h; cases h) ?_
                refine QOps.st rfl rfl (Yv.assign rfl).yl ?_
                refine QOps.nil ?_
                refine Run.block ?_
                refine Run.loop (S := Nat) (fun s => match s with | k => k ≤ (wayOf ya5).length) (fun s => match s with | k => [(26, .slice Aq5 ya5.length cq5), (27, .slice A6 ((wayOf ya5).length) c6), (31, .int .i64 (k : Int))]) (fun s => match s with | k => [.row A6 c6 3 1 (wayOf ya5).length ((wayOf ya5).flatMap intC), .row Aq5 cq5 25 6 ya5.length (ya5.flatMap Report.enc)]) (fun s => match s with | k => (wayOf ya5).length - k) 0 ?_ (SubE.cons rfl (SubE.cons rfl (SubE.cons rfl (SubE.nil _)))) (List.Sublist.cons _ (List.Sublist.cons_cons _ (List.Sublist.cons_cons _ (List.nil_sublist _)))) ?_
                · exact Nat.zero_le _
                · rintro k hk
                  show Run _ _ _ _ _ [(26, .slice Aq5 ya5.length cq5), (27, .slice A6 ((wayOf ya5).length) c6), (31, .int .i64 (k : Int))] [.row A6 c6 3 1 (wayOf ya5).length ((wayOf ya5).flatMap intC), .row Aq5 cq5 25 6 ya5.length (ya5.flatMap Report.enc)] _
                  refine Run.seq ?_
                  refine Run.seq ?_
                  refine Run.quiet (by intro h; cases h) ?_
                  refine QOps.st rfl rfl (Yv.move rfl).yl ?_
                  refine QOps.st rfl rfl (Yv.move rfl).yl ?_
                  refine QOps.st rfl rfl (Yv.lenS el41s rfl).yl ?_
                  refine QOps.st rfl rfl (Yv.lss rfl rfl).yl ?_
                  refine QOps.nil ?_
                  refine Run.cond rfl (fun hc12 => ?_) (fun hc12 => ?_)
                  · try replace hc12 := of_decide_eq_true hc12
                    have hwn := wayOf_len (rs := ya5)
                    have hwl := way_last (rs := ya5) (k := k) (by omega)
                    refine Run.skip ?_
                    refine Run.seq ?_
                    refine Run.block ?_
                    refine Run.seq ?_
                    refine Run.ops ?_
                    refine SOps.st rfl rfl (Yv.move rfl).yl ?_
                    refine SOps.st rfl rfl (Yv.move rfl).yl ?_
                    refine SOps.st rfl rfl (Yv.move rfl).yl ?_
                    refine SOps.st rfl rfl (Yv.indexAddr k el41 rfl rfl rfl (Rd.row (i := 0) rfl) (by omega)).yl ?_
                    refine SOps.st rfl rfl (Yv.loadE lay3 rfl intC_len (Rd.row (i := 0) rfl) (by first | omega | (simp; omega)) rfl).yl ?_
                    refine SOps.st rfl rfl (Yl.call callable21 (.cons rfl (.cons rfl (.nil))) (fun w' hw' => LastReport_spec ((Rd.row (i := 1) rfl) w' hw'))) ?_
                    refine SOps.st rfl rfl (Yv.move rfl).yl ?_
                    refine SOps.st rfl rfl (Yv.extract rfl rfl).yl ?_
                    refine SOps.st rfl rfl (Yv.extract rfl rfl).yl ?_
                    refine SOps.one rfl (One.alloc rfl zero25 (fun b7 => ?_))
                    refine SOps.one rfl (One.store (i := 0) (off := 0) (vs := [_, _, _, _, _, _]) (cs' := [_, _, _, _, _, _]) (H' := [_, _, _]) lay25 rfl rfl rfl rfl rfl rfl rfl rfl rfl rfl ?_)
                    refine SOps.st rfl rfl (Yv.assign rfl).yl ?_
                    refine SOps.nil ?_
                    refine Run.seq ?_
                    refine Run.quiet (by intro h; cases h) ?_
                    refine QOps.st rfl rfl (Yv.move rfl).yl ?_
                    refine QOps.st rfl rfl (Yv.not rfl).yl ?_
                    refine QOps.st rfl rfl (Yv.move rfl).yl ?_
                    refine' QOps.or [_, _, _] _ (.tmp 222) rfl rfl rfl rfl rfl rfl (fun hg20 => ?_) ?_
                    rotate_left
                    · try replace hg20 := of_decide_eq_false hg20
                      refine QOps.st rfl rfl (Yv.fieldAddr fld25_2 rfl).yl ?_
                      refine QOps.st rfl rfl (Yv.loadB (i := 0) lay3 rfl rfl rfl rfl).yl ?_
                      refine QOps.st rfl rfl (Yv.neI rfl rfl).yl ?_
                      exact QOps.nil rfl
                    refine QOps.nil ?_
                    refine Run.cond rfl (fun hc13 => ?_) (fun hc13 => ?_)
                    · exfalso
                      rw [hwl.1, hwl.2] at hc13
                      simp at hc13
                    · try replace hc13 := of_decide_eq_false hc13
                      refine Run.skip ?_
                      refine Run.quiet (by intro h; cases h) ?_
                      refine QOps.st rfl rfl (Yv.move rfl).yl ?_
                      refine QOps.st rfl rfl (Yv.succN rfl rfl (by omega)).yl ?_
                      refine QOps.st rfl rfl (Yv.assign rfl).yl ?_
                      refine QOps.nil ?_
                      refine ⟨k + 1, ?_, ?_, (SubE.cons rfl (SubE.cons rfl (SubE.cons rfl (SubE.nil _)))), (List.Sublist.cons _ (List.Sublist.refl _))⟩
                      · show k + 1 ≤ _; omega
                      · first | omega | (dsimp only; omega)
                  · try replace hc12 := of_decide_eq_false hc12
                    refine Run.exit ?_
                    refine Run.seq ?_
                    refine Run.quiet (by intro h; cases h) ?_
                    refine QOps.st rfl rfl (Yv.assign rfl).yl ?_
                    refine QOps.nil ?_
                    refine Run.ret ?_
                    refine retQ.of (.inr rfl) rfl (.tmp rfl .nil) (fun w' hw' => ?_)
                    refine ⟨?_, hw'.bel.below⟩
                    exact rfl
end Go.Proofs.YtlpgcbkialcjcaaGreatDoor
