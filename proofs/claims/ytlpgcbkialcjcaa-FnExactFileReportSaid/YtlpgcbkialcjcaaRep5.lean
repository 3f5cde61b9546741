/- Reports: a report is filed (the reference). Conditions: none. -/
import Derived.Test.YtlpgcbkialcjcaaRep4
namespace Go.Proofs.Ytlpgcbkialcjcaa
open Go.RowKit
set_option maxRecDepth 100000
theorem firstTo_lt {n k : Nat} {p : Nat → Bool} (h : firstTo n p = some k) : k < n ∧ p k = true ∧ ∀ i, i < k → p i = false := by
  induction n with
  | zero => simp [firstTo] at h
  | succ n ih =>
    rw [firstTo_succ] at h
    cases hf : firstTo n p with
    | some j =>
      rw [hf] at h
      obtain rfl : j = k := Option.some.inj h
      have := ih hf
      exact ⟨by omega, this.2.1, this.2.2⟩
    | none =>
      rw [hf] at h
      change (if p n = true then some n else none) = some k at h
      split at h
      · rename_i hp
        simp only [Option.some.injEq] at h
        subst h
        refine ⟨by omega, hp, fun i hi => ?_⟩
        by_cases hpi : p i = true
        · simp only [firstTo, List.find?_eq_none, List.mem_range] at hf
          exact absurd hpi (hf i hi)
        · simpa using hpi
      · cases h
/-- Where a report belongs in a list. -/
def posR (rs : List Report) (r : Report) : Nat := match firstTo rs.length (fun k => !beforeR (nth rs k) r) with | some k => k | none => rs.length
theorem posR_eq {rs : List Report} {r : Report} {k : Nat} (hk : k ≤ rs.length) (hall : ∀ i, i < k → beforeR (nth rs i) r = true) (hstop : (decide ((k : Int) < (rs.length : Int)) && beforeR (nth rs k) r) = false) : posR rs r = k := by
  unfold posR
  rcases Nat.lt_or_ge k rs.length with h | h
  · have h2 : beforeR (nth rs k) r = false := by
      rw [decide_eq_true (by omega)] at hstop
      simpa using hstop
    rw [firstTo_some (k := k) h (by rw [h2]; rfl) (fun i hi => by rw [hall i hi]; rfl)]
  · rw [firstTo_none (fun i hi => by rw [hall i (by omega)]; rfl)]
    exact (show rs.length = k by omega)
theorem posR_le {rs : List Report} {r : Report} : posR rs r ≤ rs.length := by
  unfold posR
  cases h : firstTo rs.length (fun k => !beforeR (nth rs k) r) with
  | none => exact Nat.le_refl _
  | some k => have := (firstTo_lt h).1; exact Nat.le_of_lt this
def foundR (rs : List Report) (r : Report) : Bool := decide ((posR rs r : Int) < (rs.length : Int)) && !beforeR r (nth rs (posR rs r))
def putR (rs : List Report) (r : Report) : List Report := rs.take (posR rs r) ++ [r] ++ rs.drop (posR rs r)
def fileOf (rs : List Report) (r : Report) : List Report × Bool × Bool :=
  if (isFile rs && oneR r) = true then (if foundR rs r = true then (rs, false, true) else (if isFile (putR rs r) = true then (putR rs r, true, true) else ([], false, false))) else ([], false, false)
theorem putR_len {rs : List Report} {r : Report} : (putR rs r).length = rs.length + 1 := by
  have := posR_le (rs := rs) (r := r)
  simp [putR]
  omega
theorem fileOf_len {rs : List Report} {r : Report} : (fileOf rs r).1.length ≤ 12 := by
  unfold fileOf
  split
  · rename_i h
    simp only [Bool.and_eq_true] at h
    split
    · exact (file_parts h.1).1
    · split
      · rename_i h2
        exact (file_parts h2).1
      · simp
  · simp
theorem fileOf_no {rs : List Report} {r : Report} (h : (isFile rs && oneR r) = false) : fileOf rs r = ([], false, false) := by unfold fileOf; rw [if_neg (by rw [h]; simp)]
theorem fileOf_found {rs : List Report} {r : Report} (h : (isFile rs && oneR r) = true) (hf : foundR rs r = true) : fileOf rs r = (rs, false, true) := by unfold fileOf; rw [if_pos h, if_pos hf]
theorem fileOf_bad {rs : List Report} {r : Report} (h : (isFile rs && oneR r) = true) (hf : foundR rs r = false) (hp : isFile (putR rs r) = false) : fileOf rs r = ([], false, false) := by unfold fileOf; rw [if_pos h, if_neg (by rw [hf]; simp), if_neg (by rw [hp]; simp)]
theorem fileOf_put {rs : List Report} {r : Report} (h : (isFile rs && oneR r) = true) (hf : foundR rs r = false) (hp : isFile (putR rs r) = true) : fileOf rs r = (putR rs r, true, true) := by unfold fileOf; rw [if_pos h, if_neg (by rw [hf]; simp), if_pos hp]
theorem l20File_spec' {w : World} {A : Option Addr} {c n : Nat} {rs : List Report} (hn : rs.length = n) (hs : Sl w 6 A n c (rs.flatMap Report.enc)) :
    Calls Try.prog 45 #[.slice A n c] w (RetB w (.bool (isFile rs))) := by subst hn; exact l20File_spec hs
theorem IsFile_spec' {w : World} {A : Option Addr} {c n : Nat} {rs : List Report} (hn : rs.length = n) (hs : Sl w 6 A n c (rs.flatMap Report.enc)) :
    Calls Try.prog 17 #[.slice A n c] w (RetB w (.bool (isFile rs))) := by subst hn; exact IsFile_spec hs
theorem sFileReport_spec {w : World} {A : Option Addr} {c : Nat} {rs : List Report} {r : Report} (hs : Sl w 6 A rs.length c (rs.flatMap Report.enc)) (hl : rs.length ≤ 2000000) : Calls Try.prog 39 #[.slice A rs.length c, .agg r.enc.toArray] w (RetRow w 25 6 (fileOf rs r).1.length ((fileOf rs r).1.flatMap Report.enc) (fun s => .tuple #[s, .bool (fileOf rs r).2.1, .bool (fileOf rs r).2.2])) := by
  have hmx := Sl.lenle hs
  have hcap := hs.cap
  refine calls_of_run (vs := [_, _]) (L := [(0, _), (1, _)]) (n := 68) (F := []) (H := []) Try.func39 rfl rfl rfl rfl (HOk.start _) ?_
  refine Run.seq ?_
  refine Run.ops ?_
  refine SOps.one rfl (One.box (cs := [_, _, _, _, _, _]) rfl rfl rfl (fun b1 => ?_))
  refine SOps.st rfl rfl (Yv.assign rfl).yl ?_
  refine SOps.st rfl rfl (Yv.assign rfl).yl ?_
  refine SOps.st rfl rfl (Yv.assign rfl).yl ?_
  refine SOps.nil ?_
  refine Run.seq ?_
  refine Run.seq ?_
  refine Run.quiet (by intro h; cases h) ?_
  refine QOps.st rfl rfl (Yv.move rfl).yl ?_
  refine QOps.st rfl rfl (Yl.call callable45 (.cons rfl (.nil)) (fun w' hw' => l20File_spec ((Rd.arg hs) w' hw'))) ?_
  refine QOps.st rfl rfl (Yv.not rfl).yl ?_
  refine QOps.st rfl rfl (Yv.move rfl).yl ?_
  refine' QOps.or [_, _, _] _ (.tmp 15) rfl rfl rfl rfl rfl rfl (fun hg1 => ?_) ?_
  rotate_left
  · try replace hg1 := of_decide_eq_false hg1
    refine QOps.st rfl rfl (Yv.loadBs (i := 0) lay25 rfl rfl rfl rfl).yl ?_
    refine QOps.st rfl rfl (Yl.call callable41 (.cons rfl (.nil)) (fun w' hw' => l20One_spec)) ?_
    refine QOps.st rfl rfl (Yv.not rfl).yl ?_
    exact QOps.nil rfl
  refine QOps.nil ?_
  refine Run.cond rfl (fun hc1 => ?_) (fun hc1 => ?_)
  · try replace hc1 := of_decide_eq_true hc1
    have hn : (isFile rs && oneR r) = false := by revert hc1; cases isFile rs <;> cases oneR r <;> simp
    refine Run.seq ?_
    refine Run.ops ?_
    refine SOps.one rfl (One.buildSliceG (pv := []) (cs := []) (fun _ => []) rfl el31 .nil rfl rfl (by kernel_rfl) rfl rfl (fun b2 => ?_))
    refine SOps.st rfl rfl (Yv.assign rfl).yl ?_
    refine SOps.st rfl rfl (Yv.assign rfl).yl ?_
    refine SOps.st rfl rfl (Yv.assign rfl).yl ?_
    refine SOps.nil ?_
    refine Run.ret ?_
    refine retQ.of (.inr rfl) rfl (.tmp rfl (.tmp rfl (.tmp rfl .nil))) (fun w' hw' => ?_)
    rw [fileOf_no hn]; exact ⟨_, _, rfl, hw'.bel.below, hw'.ent _ (List.mem_of_getElem? (i := 0) rfl), fun g hg => (hw'.own _ (List.mem_of_getElem? (i := 0) rfl) g hg).elim id (by simp)⟩
  · try replace hc1 := of_decide_eq_false hc1
    have hy : (isFile rs && oneR r) = true := by revert hc1; cases isFile rs <;> cases oneR r <;> simp
    refine Run.skip ?_
    refine Run.seq ?_
    refine Run.quiet (by intro h; cases h) ?_
    refine QOps.st rfl rfl (Yv.assign rfl).yl ?_
    refine QOps.nil ?_
    refine Run.seq ?_
    refine Run.block ?_
    refine Run.loop (S := Nat) (fun s => match s with | k => k ≤ rs.length ∧ ∀ i, i < k → beforeR (nth rs i) r = true) (fun s => match s with | k => [(0, .slice A rs.length c), (3, .pointer (some ⟨b1, 0, none⟩)), (7, .int .i64 (k : Int))]) (fun s => match s with | k => [.blk b1 25 (Report.enc r)]) (fun s => match s with | k => rs.length - k) 0 ?_ (SubE.cons rfl (SubE.cons rfl (SubE.cons rfl (SubE.nil _)))) (List.Sublist.refl _) ?_
    · exact ⟨by omega, fun i hi => by omega⟩
    · rintro k ⟨hk, hall⟩
      show Run _ _ _ _ _ [(0, .slice A rs.length c), (3, .pointer (some ⟨b1, 0, none⟩)), (7, .int .i64 (k : Int))] [.blk b1 25 (Report.enc r)] _
      refine Run.seq ?_
      refine Run.seq ?_
      refine Run.quiet (fun _ => ⟨by kernel_rfl, by kernel_rfl⟩) ?_
      refine QOps.st rfl rfl (Yv.move rfl).yl ?_
      refine QOps.st rfl rfl (Yv.move rfl).yl ?_
      refine QOps.st rfl rfl (Yv.lenS el31s rfl).yl ?_
      refine QOps.st rfl rfl (Yv.lss rfl rfl).yl ?_
      refine QOps.st rfl rfl (Yv.move rfl).yl ?_
      refine' QOps.and [_, _, _, _, _, _] _ (.tmp 28) rfl rfl rfl rfl rfl rfl (fun hg2 => ?_) ?_
      rotate_left
      · try replace hg2 := of_decide_eq_true hg2
        refine QOps.st rfl rfl (Yv.move rfl).yl ?_
        refine QOps.st rfl rfl (Yv.move rfl).yl ?_
        refine QOps.st rfl rfl (Yv.indexAddr k el31 rfl rfl rfl (Rd.arg hs) (by omega)).yl ?_
        refine QOps.st rfl rfl (Yv.loadEs lay25 rfl Report.len (Rd.arg hs) (by first | omega | (simp; omega)) (by decide)).yl ?_
        refine QOps.st rfl rfl (Yv.loadBs (i := 0) lay25 rfl rfl rfl rfl).yl ?_
        refine QOps.st rfl rfl (Yl.call callable56 (.cons rfl (.cons rfl (.nil))) (fun w' hw' => l20Before_spec)) ?_
        exact QOps.nil rfl
      refine QOps.nil ?_
      refine Run.cond rfl (fun hc2 => ?_) (fun hc2 => ?_)
      · try replace hc2 := of_decide_eq_true hc2
        refine Run.skip ?_
        refine Run.block ?_
        refine Run.quiet (by intro h; cases h) ?_
        refine QOps.st rfl rfl (Yv.move rfl).yl ?_
        refine QOps.st rfl rfl (Yv.succN rfl rfl (by omega)).yl ?_
        refine QOps.st rfl rfl (Yv.assign rfl).yl ?_
        refine QOps.nil ?_
        rw [Bool.and_eq_true, decide_eq_true_eq] at hc2
        refine ⟨k + 1, ?_, ?_, (SubE.cons rfl (SubE.cons rfl (SubE.cons rfl (SubE.nil _)))), (List.Sublist.refl _)⟩
        · exact ⟨by omega, all_succ hall hc2.2⟩
        · (dsimp only; omega)
      · try replace hc2 := of_decide_eq_false hc2
        have hpos : posR rs r = k := posR_eq hk hall hc2
        refine Run.exit ?_
        refine Run.seq ?_
        refine Run.ops ?_
        refine SOps.one rfl (One.buildSliceG (pv := []) (cs := []) (fun _ => []) rfl el31 .nil rfl rfl (by kernel_rfl) rfl rfl (fun b3 => ?_))
        refine SOps.st rfl rfl (Yv.move rfl).yl ?_
        refine SOps.st rfl rfl (Yv.move rfl).yl ?_
        refine SOps.st rfl rfl (Yv.cutTo0 k el31 rfl rfl rfl (by omega)).yl ?_
        refine SOps.one rfl (One.append (enc := Report.enc) (l := ([] : List Report)) (l2 := (rs.take k)) (m' := k) (i := 0) (H' := fun A c => [_, _]) rfl el31 zero25 rfl (by decide) rfl rfl rfl (Rd.cut0 Report.len (Rd.arg hs) (by omega)) (fun _ => rfl) (by simp) (by omega) (by omega) (fun _ _ => rfl) (fun A1 c1 => ?_))
        refine SOps.st rfl rfl (Yv.assign rfl).yl ?_
        refine SOps.nil ?_
        refine Run.seq ?_
        refine Run.seq ?_
        refine Run.quiet (fun _ => ⟨by kernel_rfl, by kernel_rfl⟩) ?_
        refine QOps.st rfl rfl (Yv.move rfl).yl ?_
        refine QOps.st rfl rfl (Yv.move rfl).yl ?_
        refine QOps.st rfl rfl (Yv.lenS el31s rfl).yl ?_
        refine QOps.st rfl rfl (Yv.lss rfl rfl).yl ?_
        refine QOps.st rfl rfl (Yv.move rfl).yl ?_
        refine' QOps.and [_, _, _, _, _, _, _] _ (.tmp 48) rfl rfl rfl rfl rfl rfl (fun hg3 => ?_) ?_
        rotate_left
        · try replace hg3 := of_decide_eq_true hg3
          refine QOps.st rfl rfl (Yv.loadBs (i := 1) lay25 rfl rfl rfl rfl).yl ?_
          refine QOps.st rfl rfl (Yv.move rfl).yl ?_
          refine QOps.st rfl rfl (Yv.move rfl).yl ?_
          refine QOps.st rfl rfl (Yv.indexAddr k el31 rfl rfl rfl (Rd.arg hs) (by omega)).yl ?_
          refine QOps.st rfl rfl (Yv.loadEs lay25 rfl Report.len (Rd.arg hs) (by first | omega | (simp; omega)) (by decide)).yl ?_
          refine QOps.st rfl rfl (Yl.call callable56 (.cons rfl (.cons rfl (.nil))) (fun w' hw' => l20Before_spec)) ?_
          refine QOps.st rfl rfl (Yv.not rfl).yl ?_
          exact QOps.nil rfl
        refine QOps.nil ?_
        refine Run.cond rfl (fun hc3 => ?_) (fun hc3 => ?_)
        · try replace hc3 := of_decide_eq_true hc3
          have hfd : foundR rs r = true := by unfold foundR; rw [hpos]; exact hc3
          refine Run.seq ?_
          refine Run.ops ?_
          refine SOps.st rfl rfl (Yv.move rfl).yl ?_
          refine SOps.st rfl rfl (Yv.move rfl).yl ?_
          refine SOps.st rfl rfl (Yv.move rfl).yl ?_
          refine SOps.st rfl rfl (Yv.cutFrom k el31 rfl rfl rfl (by omega)).yl ?_
          refine SOps.one rfl (One.append (enc := Report.enc) (l := (rs.take k)) (l2 := (rs.drop k)) (m' := rs.length) (i := 0) (H' := fun A c => [_, _]) rfl el31 zero25 rfl (by decide) rfl rfl rfl (Rd.cutF Report.len (Rd.arg hs) rfl (by omega)) (fun _ => rfl) (by omega) (by omega) (by omega) (fun _ _ => rfl) (fun A2 c2 => ?_))
          refine SOps.st rfl rfl (Yv.assign rfl).yl ?_
          refine SOps.st rfl rfl (Yv.assign rfl).yl ?_
          refine SOps.st rfl rfl (Yv.assign rfl).yl ?_
          refine SOps.nil ?_
          refine Run.ret ?_
          rw [List.take_append_drop]
          refine retQ.of (.inr rfl) rfl (.tmp rfl (.tmp rfl (.tmp rfl .nil))) (fun w' hw' => ?_)
          rw [fileOf_found hy hfd]; exact ⟨_, _, rfl, hw'.bel.below, hw'.ent _ (List.mem_of_getElem? (i := 0) rfl), fun g hg => (hw'.own _ (List.mem_of_getElem? (i := 0) rfl) g hg).elim id (by simp)⟩
        · try replace hc3 := of_decide_eq_false hc3
          have hfd : foundR rs r = false := by unfold foundR; rw [hpos]; exact hc3
          refine Run.skip ?_
          refine Run.seq ?_
          refine Run.draws (fun H => (H).eraseIdx 0) (m := 9) (listed := #[false, false, false, false, false, false, false, false, false]) (by kernel_rfl) rfl rfl ?_
          refine DOps.take (listed' := #[true, false, false, false, false, false, false, false, false]) 0 rfl (by kernel_rfl) rfl (List.Sublist.cons _ (List.Sublist.refl _)) rfl rfl (Yv.move rfl) ?_
          refine DOps.take (listed' := #[true, true, false, false, false, false, false, false, false]) 1 rfl (by kernel_rfl) rfl (List.Sublist.cons _ (List.Sublist.refl _)) rfl rfl (Yv.loadBs (i := 0) lay25 rfl rfl rfl rfl) ?_
          refine DOps.take (listed' := #[true, true, false, false, true, false, false, false, false]) 4 rfl (by kernel_rfl) rfl (List.Sublist.cons _ (List.Sublist.refl _)) rfl rfl (Yv.move rfl) ?_
          refine DOps.take (listed' := #[true, true, false, false, true, true, false, false, false]) 5 rfl (by kernel_rfl) rfl (List.Sublist.cons _ (List.Sublist.refl _)) rfl rfl (Yv.move rfl) ?_
          refine DOps.take (listed' := #[true, true, false, false, true, true, true, false, false]) 6 rfl (by kernel_rfl) rfl (List.Sublist.cons _ (List.Sublist.refl _)) rfl rfl (Yv.cutFrom k el31 rfl rfl rfl (by omega)) ?_
          refine DOps.only (listed' := #[true, true, true, false, true, true, true, false, false]) 2 rfl (by kernel_rfl) rfl rfl ?_
          refine One.buildSliceG (pv := [(0, _)]) (cs := [_, _, _, _, _, _]) (fun l => match l with | [.agg ⟨[a0_0, a0_1, a0_2, a0_3, a0_4, a0_5]⟩] => [a0_0, a0_1, a0_2, a0_3, a0_4, a0_5] | _ => []) rfl el31 (.cons rfl (.nil)) rfl rfl (by kernel_rfl) rfl rfl (fun b4 => ?_)
          refine ⟨(List.Sublist.cons _ (List.Sublist.cons _ (List.Sublist.refl _))), ?_⟩
          refine DOps.only (listed' := #[true, true, true, true, true, true, true, false, false]) 3 rfl (by kernel_rfl) rfl rfl ?_
          refine One.append (enc := Report.enc) (l := (rs.take k)) (l2 := [r]) (m' := (k + 1)) (i := 1) (H' := fun A c => [_, _, _]) rfl el31 zero25 rfl (by decide) rfl rfl rfl (Rd.row (i := 0) rfl) (fun _ => rfl) rfl (by omega) (by omega) (fun _ _ => rfl) (fun A3 c3 => ?_)
          refine ⟨(List.Sublist.cons _ (List.Sublist.cons _ (List.Sublist.refl _))), ?_⟩
          refine DOps.only (listed' := #[true, true, true, true, true, true, true, true, false]) 7 rfl (by kernel_rfl) rfl rfl ?_
          refine One.append (enc := Report.enc) (l := (rs.take k ++ [r])) (l2 := (rs.drop k)) (m' := (rs.length + 1)) (i := 1) (H' := fun A c => [_, _, _]) rfl el31 zero25 rfl (by decide) rfl rfl rfl (Rd.cutF Report.len (Rd.arg hs) rfl (by omega)) (fun _ => rfl) (by omega) (by omega) (by omega) (fun _ _ => rfl) (fun A4 c4 => ?_)
          refine ⟨(List.Sublist.cons _ (List.Sublist.cons _ (List.Sublist.refl _))), ?_⟩
          refine DOps.take (listed' := #[true, true, true, true, true, true, true, true, true]) 8 rfl (by kernel_rfl) rfl (List.Sublist.cons _ (List.Sublist.cons _ (List.Sublist.refl _))) rfl rfl (Yv.assign rfl) ?_
          refine DOps.done (by kernel_rfl) ?_
          refine Run.seq ?_
          refine Run.seq ?_
          refine Run.quiet (by intro h; cases h) ?_
          refine QOps.st rfl rfl (Yv.move rfl).yl ?_
          refine QOps.st rfl rfl (Yl.call callable45 (.cons rfl (.nil)) (fun w' hw' => l20File_spec' (rs := rs.take k ++ [r] ++ rs.drop k) (by simp; omega) (Rd.row (i := 1) rfl w' hw'))) ?_
          refine QOps.st rfl rfl (Yv.not rfl).yl ?_
          refine QOps.nil ?_
          refine Run.cond rfl (fun hc4 => ?_) (fun hc4 => ?_)
          · try replace hc4 := of_decide_eq_true hc4
            have hp : isFile (putR rs r) = false := by unfold putR; rw [hpos]; simpa using hc4
            refine Run.seq ?_
            refine Run.ops ?_
            refine SOps.one rfl (One.buildSliceG (pv := []) (cs := []) (fun _ => []) rfl el31 .nil rfl rfl (by kernel_rfl) rfl rfl (fun b5 => ?_))
            refine SOps.st rfl rfl (Yv.assign rfl).yl ?_
            refine SOps.st rfl rfl (Yv.assign rfl).yl ?_
            refine SOps.st rfl rfl (Yv.assign rfl).yl ?_
            refine SOps.nil ?_
            refine Run.ret ?_
            refine retQ.of (.inr rfl) rfl (.tmp rfl (.tmp rfl (.tmp rfl .nil))) (fun w' hw' => ?_)
            rw [fileOf_bad hy hfd hp]; exact ⟨_, _, rfl, hw'.bel.below, hw'.ent _ (List.mem_of_getElem? (i := 0) rfl), fun g hg => (hw'.own _ (List.mem_of_getElem? (i := 0) rfl) g hg).elim id (by simp)⟩
          · try replace hc4 := of_decide_eq_false hc4
            have hp : isFile (putR rs r) = true := by unfold putR; rw [hpos]; simpa using hc4
            refine Run.skip ?_
            refine Run.seq ?_
            refine Run.quiet (by intro h; cases h) ?_
            refine QOps.st rfl rfl (Yv.move rfl).yl ?_
            refine QOps.st rfl rfl (Yv.assign rfl).yl ?_
            refine QOps.st rfl rfl (Yv.assign rfl).yl ?_
            refine QOps.st rfl rfl (Yv.assign rfl).yl ?_
            refine QOps.nil ?_
            refine Run.ret ?_
            refine retQ.of (.inr rfl) rfl (.tmp rfl (.tmp rfl (.tmp rfl .nil))) (fun w' hw' => ?_)
            rw [fileOf_put hy hfd hp, show (putR rs r, true, true).1.length = rs.length + 1 from putR_len]; unfold putR; rw [hpos]; exact ⟨_, _, rfl, hw'.bel.below, hw'.ent _ (List.mem_of_getElem? (i := 1) rfl), fun g hg => (hw'.own _ (List.mem_of_getElem? (i := 1) rfl) g hg).elim id (by simp)⟩
end Go.Proofs.Ytlpgcbkialcjcaa
