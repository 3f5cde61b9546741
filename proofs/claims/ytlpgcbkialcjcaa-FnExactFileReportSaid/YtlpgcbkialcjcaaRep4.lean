/- Reports: the numbers that are missing. Conditions: none. -/
import Derived.Test.YtlpgcbkialcjcaaRep3
namespace Go.Proofs.Ytlpgcbkialcjcaa
open Go.RowKit
set_option maxRecDepth 100000
theorem allTo_succ {n : Nat} {p : Nat → Bool} : allTo (n + 1) p = (allTo n p && p n) := by simp [allTo, List.range_succ]
def isNo (v n : Int) (r : Report) : Bool := decide (r.vessel = v) && decide (r.number = n)
/-- One of the first k reports is of a vessel and has a number. -/
def hasTo (rs : List Report) (v : Int) (k : Nat) (n : Int) : Bool := !allTo k (fun i => !isNo v n (nth rs i))
theorem hasTo_succ {rs : List Report} {v n : Int} {k : Nat} : hasTo rs v (k + 1) n = (hasTo rs v k n || isNo v n (nth rs k)) := by
  unfold hasTo
  rw [allTo_succ]
  cases allTo k (fun i => !isNo v n (nth rs i)) <;> cases isNo v n (nth rs k) <;> rfl
theorem hasTo_ex {rs : List Report} {v n : Int} : ∀ {k : Nat}, hasTo rs v k n = true → ∃ i, i < k ∧ (nth rs i).vessel = v ∧ (nth rs i).number = n
  | 0, h => by simp [hasTo, allTo] at h
  | k + 1, h => by
    rw [hasTo_succ, Bool.or_eq_true] at h
    rcases h with h | h
    · obtain ⟨i, h1, h2⟩ := hasTo_ex h
      exact ⟨i, by omega, h2⟩
    · simp only [isNo, Bool.and_eq_true, decide_eq_true_eq] at h
      exact ⟨k, by omega, h⟩
/-- The number of the last one of the first k reports that is of a vessel, or 0. -/
def lastNum (rs : List Report) (v : Int) : Nat → Int
  | 0 => 0
  | k + 1 => if (nth rs k).vessel = v then (nth rs k).number else lastNum rs v k
theorem lastNum_cases {rs : List Report} {v : Int} : ∀ {k : Nat}, lastNum rs v k = 0 ∨ ∃ i, i < k ∧ (nth rs i).vessel = v ∧ lastNum rs v k = (nth rs i).number
  | 0 => .inl rfl
  | k + 1 => by
    rw [lastNum]
    split
    · rename_i h
      exact .inr ⟨k, by omega, h, rfl⟩
    · rcases lastNum_cases (rs := rs) (v := v) (k := k) with h | ⟨i, h1, h2, h3⟩
      · exact .inl h
      · exact .inr ⟨i, by omega, h2, h3⟩
theorem lastNum_last {rs : List Report} {v : Int} {j : Nat} : ∀ {k : Nat}, lastTo rs v k = (j : Int) → lastNum rs v k = (nth rs j).number
  | 0, h => by simp only [lastTo] at h; omega
  | k + 1, h => by
    rw [lastTo] at h
    rw [lastNum]
    split
    · rename_i hv
      rw [if_pos hv] at h
      have : k = j := by omega
      rw [this]
    · rename_i hv
      rw [if_neg hv] at h
      exact lastNum_last h
theorem lastNum_none {rs : List Report} {v : Int} : ∀ {k : Nat}, lastTo rs v k < 0 → lastNum rs v k = 0
  | 0, _ => rfl
  | k + 1, h => by
    rw [lastTo] at h
    rw [lastNum]
    split
    · rename_i hv
      rw [if_pos hv] at h
      omega
    · rename_i hv
      rw [if_neg hv] at h
      exact lastNum_none h
theorem before_trans {a b c : Report} (h1 : beforeR a b = true) (h2 : beforeR b c = true) : beforeR a c = true := by
  simp only [beforeR, Bool.or_eq_true, Bool.and_eq_true, decide_eq_true_eq] at *
  omega
theorem file_sorted {rs : List Report} (hf : isFile rs = true) : ∀ {j i : Nat}, i < j → j < rs.length → beforeR (nth rs i) (nth rs j) = true
  | 0, i, h, _ => by omega
  | j + 1, i, h, hl => by
    have hb := (file_parts hf).2 (j + 1) hl
    simp only [badR, Bool.or_eq_false_iff, Bool.and_eq_false_iff, Bool.not_eq_false', decide_eq_false_iff_not, Nat.add_sub_cancel] at hb
    have h1 : beforeR (nth rs j) (nth rs (j + 1)) = true := by
      rcases hb.2 with h2 | h2
      · omega
      · exact h2
    rcases Nat.lt_or_ge i j with h2 | h2
    · exact before_trans (file_sorted hf h2 (by omega)) h1
    · have : i = j := by omega
      rw [this]; exact h1
theorem file_number {rs : List Report} (hf : isFile rs = true) {i j : Nat} (h : i < j) (hl : j < rs.length) (hv : (nth rs i).vessel = (nth rs j).vessel) : (nth rs i).number < (nth rs j).number := by
  have := file_sorted hf h hl
  simp only [beforeR, Bool.or_eq_true, Bool.and_eq_true, decide_eq_true_eq] at this
  omega
theorem one_num {r : Report} (h : oneR r = true) : 1 ≤ r.number ∧ r.number ≤ 999 := by
  simp only [oneR, Bool.and_eq_true, inB_iff] at h
  exact h.1.1.1.1.2
theorem file_num {rs : List Report} (hf : isFile rs = true) {k : Nat} (h : k < rs.length) : 1 ≤ (nth rs k).number ∧ (nth rs k).number ≤ 999 := one_num (bad_one ((file_parts hf).2 k h))
theorem lastNum_lt {rs : List Report} {v : Int} (hf : isFile rs = true) {k : Nat} (h : k < rs.length) (hv : (nth rs k).vessel = v) : lastNum rs v k < (nth rs k).number := by
  have h1 := file_num hf h
  rcases lastNum_cases (rs := rs) (v := v) (k := k) with h2 | ⟨i, h2, h3, h4⟩
  · omega
  · rw [h4]
    exact file_number hf h2 h (by rw [h3, hv])
theorem lastNum_range {rs : List Report} {v : Int} (hf : isFile rs = true) {k : Nat} (h : k ≤ rs.length) : 0 ≤ lastNum rs v k ∧ lastNum rs v k ≤ 999 := by
  rcases lastNum_cases (rs := rs) (v := v) (k := k) with h2 | ⟨i, h2, h3, h4⟩
  · omega
  · have := file_num hf (k := i) (by omega)
    omega
theorem hasTo_le {rs : List Report} {v n : Int} (hf : isFile rs = true) : ∀ {k : Nat}, k ≤ rs.length → hasTo rs v k n = true → n ≤ lastNum rs v k
  | 0, _, h => by simp [hasTo, allTo] at h
  | k + 1, hk, h => by
    rw [hasTo_succ, Bool.or_eq_true] at h
    rw [lastNum]
    rcases h with h | h
    · have ih := hasTo_le hf (by omega) h
      split
      · rename_i hv
        have := lastNum_lt hf (k := k) (by omega) hv
        omega
      · exact ih
    · simp only [isNo, Bool.and_eq_true, decide_eq_true_eq] at h
      rw [if_pos h.1, h.2]
      exact Int.le_refl _
/-- The numbers up to one that something has not. -/
def missTo (has : Int → Bool) : Nat → List Int
  | 0 => []
  | n + 1 => if has ((n : Int) + 1) = true then missTo has n else missTo has n ++ [(n : Int) + 1]
theorem missTo_len {has : Int → Bool} : ∀ {n : Nat}, (missTo has n).length ≤ n
  | 0 => by simp [missTo]
  | n + 1 => by
    have ih := missTo_len (has := has) (n := n)
    rw [missTo]
    split
    · omega
    · simp; omega
theorem missTo_congr {p q : Int → Bool} : ∀ {n : Nat}, (∀ i : Int, 1 ≤ i → i ≤ (n : Int) → p i = q i) → missTo p n = missTo q n
  | 0, _ => rfl
  | n + 1, h => by
    rw [missTo, missTo, missTo_congr (fun i h1 h2 => h i h1 (by omega)), h ((n : Int) + 1) (by omega) (by omega)]
theorem missTo_no {has : Int → Bool} {n : Int} (h1 : 1 ≤ n) (h : has n = false) : missTo has n.toNat = missTo has (n - 1).toNat ++ [n] := by
  obtain ⟨m, rfl⟩ : ∃ m : Nat, n = (m : Int) + 1 := ⟨(n - 1).toNat, by omega⟩
  have e1 : ((m : Int) + 1).toNat = m + 1 := by omega
  have e2 : ((m : Int) + 1 - 1).toNat = m := by omega
  rw [e1, e2, missTo, if_neg (by rw [h]; simp)]
theorem missTo_has {has : Int → Bool} {n : Int} (h1 : 1 ≤ n) (h : has n = true) : missTo has n.toNat = missTo has (n - 1).toNat := by
  obtain ⟨m, rfl⟩ : ∃ m : Nat, n = (m : Int) + 1 := ⟨(n - 1).toNat, by omega⟩
  have e1 : ((m : Int) + 1).toNat = m + 1 := by omega
  have e2 : ((m : Int) + 1 - 1).toNat = m := by omega
  rw [e1, e2, missTo, if_pos h]
def missOk (rs : List Report) (v : Int) : Bool := isFile rs && inB v 1 99
def missL (rs : List Report) (v : Int) : List Int := missTo (hasTo rs v rs.length) (lastNum rs v rs.length).toNat
def missOf (rs : List Report) (v : Int) : List Int × Bool := if missOk rs v = true then (if (50 : Int) < (missL rs v).length then ([], false) else (missL rs v, true)) else ([], false)
theorem missOf_len {rs : List Report} {v : Int} : (missOf rs v).1.length ≤ 50 := by
  unfold missOf
  split
  · split
    · simp
    · simp only; omega
  · simp
theorem missL_none {rs : List Report} {v : Int} (h : lastTo rs v rs.length < 0) : missL rs v = [] := by
  unfold missL
  rw [lastNum_none h]
  rfl
theorem MissingReports1_spec {w : World} {r : Report} {v n : Int} {b1 b2 : Nat} (h1 : Sl w 1 (some ⟨b1, 0, none⟩) 1 1 ([v].flatMap intC)) (h2 : Sl w 1 (some ⟨b2, 0, none⟩) 1 1 ([n].flatMap intC)) :
    Calls Try.prog 51 #[.agg r.enc.toArray, .pointer (some ⟨b1, 0, none⟩), .pointer (some ⟨b2, 0, none⟩)] w (RetB w (.bool (isNo v n r))) := by
  refine calls_of_run (vs := [_, _, _]) (L := [(0, _), (1, _), (2, _)]) (n := 15) (F := []) (H := []) Try.func51 rfl rfl rfl rfl (HOk.start _) ?_
  refine Run.seq ?_
  refine Run.ops ?_
  refine SOps.one rfl (One.box (cs := [_, _, _, _, _, _]) rfl rfl rfl (fun b1 => ?_))
  refine SOps.st rfl rfl (Yv.assign rfl).yl ?_
  refine SOps.nil ?_
  refine Run.seq ?_
  refine Run.quiet (by intro h; cases h) ?_
  refine QOps.st rfl rfl (Yv.fieldAddr fld25_0 rfl).yl ?_
  refine QOps.st rfl rfl (Yv.loadB (i := 0) lay3 rfl rfl rfl rfl).yl ?_
  refine QOps.st rfl rfl (Yv.loadE (k := 0) lay3 rfl intC_len (Rd.arg h1) (by simp) rfl).yl ?_
  refine QOps.st rfl rfl (Yv.eqI rfl rfl).yl ?_
  refine QOps.st rfl rfl (Yv.move rfl).yl ?_
  refine' QOps.and [_, _, _, _] _ (.tmp 13) rfl rfl rfl rfl rfl rfl (fun hg1 => ?_) ?_
  rotate_left
  · try replace hg1 := of_decide_eq_true hg1
    refine QOps.st rfl rfl (Yv.fieldAddr fld25_1 rfl).yl ?_
    refine QOps.st rfl rfl (Yv.loadB (i := 0) lay3 rfl rfl rfl rfl).yl ?_
    refine QOps.st rfl rfl (Yv.loadE (k := 0) lay3 rfl intC_len (Rd.arg h2) (by simp) rfl).yl ?_
    refine QOps.st rfl rfl (Yv.eqI rfl rfl).yl ?_
    exact QOps.nil rfl
  refine QOps.st rfl rfl (Yv.assign rfl).yl ?_
  refine QOps.nil ?_
  refine Run.ret ?_
  refine retQ.of (.inr rfl) rfl (.tmp rfl .nil) (fun w' hw' => ?_)
  refine ⟨?_, hw'.bel.below⟩
  exact rfl
theorem MissingReports_spec {w : World} {A : Option Addr} {c : Nat} {rs : List Report} {v : Int} (hs : Sl w 6 A rs.length c (rs.flatMap Report.enc)) : Calls Try.prog 32 #[.slice A rs.length c, .int .i64 v] w (RetRow w 3 1 (missOf rs v).1.length ((missOf rs v).1.flatMap intC) (fun s => .tuple #[s, .bool (missOf rs v).2])) := by
  have hmx := Sl.lenle hs
  refine calls_of_run (vs := [_, _]) (L := [(0, _), (1, _)]) (n := 46) (F := []) (H := []) Try.func32 rfl rfl rfl rfl (HOk.start _) ?_
  refine Run.seq ?_
  refine Run.ops ?_
  refine SOps.one rfl (One.box (cs := [_]) rfl rfl rfl (fun b1 => ?_))
  refine SOps.st rfl rfl (Yv.assign rfl).yl ?_
  refine SOps.st rfl rfl (Yv.assign rfl).yl ?_
  refine SOps.nil ?_
  refine Run.seq ?_
  refine Run.seq ?_
  refine Run.quiet (by intro h; cases h) ?_
  refine QOps.st rfl rfl (Yv.move rfl).yl ?_
  refine QOps.st rfl rfl (Yl.call callable17 (.cons rfl (.nil)) (fun w' hw' => IsFile_spec ((Rd.arg hs) w' hw'))) ?_
  refine QOps.st rfl rfl (Yv.not rfl).yl ?_
  refine QOps.st rfl rfl (Yv.move rfl).yl ?_
  refine' QOps.or [_, _, _] _ (.tmp 15) rfl rfl rfl rfl rfl rfl (fun hg1 => ?_) ?_
  rotate_left
  · try replace hg1 := of_decide_eq_false hg1
    refine QOps.st rfl rfl (Yv.loadB (i := 0) lay3 rfl rfl rfl rfl).yl ?_
    refine QOps.st rfl rfl (Yl.call callable42 (.cons rfl (.cons rfl (.cons rfl (.nil)))) (fun w' hw' => inside_spec)) ?_
    refine QOps.st rfl rfl (Yv.not rfl).yl ?_
    exact QOps.nil rfl
  refine QOps.nil ?_
  refine Run.cond rfl (fun hc1 => ?_) (fun hc1 => ?_)
  · try replace hc1 := of_decide_eq_true hc1
    have hn : missOk rs v = false := by unfold missOk; revert hc1; cases isFile rs <;> cases inB v 1 99 <;> simp
    refine Run.seq ?_
    refine Run.quiet (by intro h; cases h) ?_
    refine QOps.st rfl rfl (Yv.assign rfl).yl ?_
    refine QOps.st rfl rfl (Yv.assign rfl).yl ?_
    refine QOps.nil ?_
    refine Run.ret ?_
    refine retQ.of (.inr rfl) rfl (.tmp rfl (.tmp rfl .nil)) (fun w' hw' => ?_)
    unfold missOf; rw [if_neg (by rw [hn]; simp)]; exact ⟨_, _, rfl, hw'.bel.below, ⟨by first | rfl | simp, .inl ⟨rfl, rfl⟩⟩, by simp⟩
  · try replace hc1 := of_decide_eq_false hc1
    have hy : missOk rs v = true := by unfold missOk; revert hc1; cases isFile rs <;> cases inB v 1 99 <;> simp
    have hf : isFile rs = true := by simp only [missOk, Bool.and_eq_true] at hy; exact hy.1
    refine Run.skip ?_
    refine Run.seq ?_
    refine Run.ops ?_
    refine SOps.one rfl (One.buildSliceG (pv := []) (cs := []) (fun _ => []) rfl el39 .nil rfl rfl (by kernel_rfl) rfl rfl (fun b2 => ?_))
    refine SOps.st rfl rfl (Yv.assign rfl).yl ?_
    refine SOps.nil ?_
    refine Run.seq ?_
    refine Run.quiet (by intro h; cases h) ?_
    refine QOps.st rfl rfl (Yv.move rfl).yl ?_
    refine QOps.st rfl rfl (Yv.loadB (i := 1) lay3 rfl rfl rfl rfl).yl ?_
    refine QOps.st rfl rfl (Yl.call callable48 (.cons rfl (.cons rfl (.nil))) (fun w' hw' => lastIndex_spec ((Rd.arg hs) w' hw'))) ?_
    refine QOps.st rfl rfl (Yv.assign rfl).yl ?_
    refine QOps.nil ?_
    refine Run.seq ?_
    refine Run.seq ?_
    refine Run.quiet (by intro h; cases h) ?_
    refine QOps.st rfl rfl (Yv.move rfl).yl ?_
    refine QOps.st rfl rfl (Yv.lss rfl rfl).yl ?_
    refine QOps.nil ?_
    refine Run.cond rfl (fun hc2 => ?_) (fun hc2 => ?_)
    · try replace hc2 := of_decide_eq_true hc2
      have hL := missL_none hc2
      refine Run.seq ?_
      refine Run.quiet (by intro h; cases h) ?_
      refine QOps.st rfl rfl (Yv.move rfl).yl ?_
      refine QOps.st rfl rfl (Yv.assign rfl).yl ?_
      refine QOps.st rfl rfl (Yv.assign rfl).yl ?_
      refine QOps.nil ?_
      refine Run.ret ?_
      refine retQ.of (.inr rfl) rfl (.tmp rfl (.tmp rfl .nil)) (fun w' hw' => ?_)
      unfold missOf; rw [if_pos hy, hL]; exact ⟨_, _, rfl, hw'.bel.below, hw'.ent _ (List.mem_of_getElem? (i := 0) rfl), fun g hg => (hw'.own _ (List.mem_of_getElem? (i := 0) rfl) g hg).elim id (by simp)⟩
    · try replace hc2 := of_decide_eq_false hc2
      have hr := lastTo_range (rs := rs) (v := v) (k := rs.length)
      obtain ⟨j, hj⟩ : ∃ j : Nat, lastTo rs v rs.length = (j : Int) := ⟨(lastTo rs v rs.length).toNat, by omega⟩
      rw [hj]
      rw [hj] at hr
      have hN := file_num hf (k := j) (by omega)
      have hLN := lastNum_last hj
      refine Run.skip ?_
      refine Run.seq ?_
      refine Run.seq ?_
      refine Run.ops ?_
      refine SOps.one rfl (One.alloc rfl zero3 (fun b3 => ?_))
      refine SOps.one rfl (One.store (i := 0) (off := 0) (vs := [_]) (cs' := [_]) (H' := [_, _, _]) lay3 rfl rfl rfl rfl rfl rfl rfl rfl rfl rfl ?_)
      refine SOps.nil ?_
      refine Run.block ?_
      refine Run.loop (S := Int × List Int × Option Addr × Nat × Nat) (fun s => match s with | (n, o, A2, c2, b8) => 1 ≤ n ∧ n - 1 ≤ (nth rs j).number ∧ (o.length : Int) ≤ n - 1 ∧ o = missTo (hasTo rs v rs.length) (n - 1).toNat) (fun s => match s with | (n, o, A2, c2, b8) => [(0, .slice A rs.length c), (3, .pointer (some ⟨b1, 0, none⟩)), (6, .slice A2 o.length c2), (7, .int .i64 (j : Int)), (8, .pointer (some ⟨b8, 0, none⟩))]) (fun s => match s with | (n, o, A2, c2, b8) => [.blk b8 3 [.int .i64 n], .row A2 c2 3 1 o.length (o.flatMap intC), .blk b1 3 [.int .i64 v]]) (fun s => match s with | (n, o, A2, c2, b8) => ((nth rs j).number + 1 - n).toNat) (1, [], some ⟨b2, 0, none⟩, 0, b3) ?_ (SubE.cons rfl (SubE.cons rfl (SubE.cons rfl (SubE.cons rfl (SubE.cons rfl (SubE.nil _)))))) (List.Sublist.refl _) ?_
      · exact ⟨by omega, by omega, by simp, rfl⟩
      · rintro ⟨n, o, A2, c2, b8⟩ ⟨hn1, hn2, hol, ho⟩
        show Run _ _ _ _ _ [(0, .slice A rs.length c), (3, .pointer (some ⟨b1, 0, none⟩)), (6, .slice A2 o.length c2), (7, .int .i64 (j : Int)), (8, .pointer (some ⟨b8, 0, none⟩))] [.blk b8 3 [.int .i64 n], .row A2 c2 3 1 o.length (o.flatMap intC), .blk b1 3 [.int .i64 v]] _
        refine Run.seq ?_
        refine Run.seq ?_
        refine Run.quiet (fun _ => ⟨by kernel_rfl, by kernel_rfl⟩) ?_
        refine QOps.st rfl rfl (Yv.loadB (i := 0) lay3 rfl rfl rfl rfl).yl ?_
        refine QOps.st rfl rfl (Yv.move rfl).yl ?_
        refine QOps.st rfl rfl (Yv.move rfl).yl ?_
        refine QOps.st rfl rfl (Yv.indexAddr j el31 rfl rfl rfl (Rd.arg hs) (by omega)).yl ?_
        refine QOps.st rfl rfl (Yv.fieldAddr fld25_1 rfl).yl ?_
        refine QOps.st rfl rfl (Yv.loadF lay3 rfl Report.len (Rd.arg hs) (by first | omega | (simp; omega)) (by decide) rfl).yl ?_
        refine QOps.st rfl rfl (Yv.leq rfl rfl).yl ?_
        refine QOps.nil ?_
        refine Run.cond rfl (fun hc3 => ?_) (fun hc3 => ?_)
        · try replace hc3 := of_decide_eq_true hc3
          refine Run.skip ?_
          refine Run.seq ?_
          refine Run.block ?_
          refine Run.seq ?_
          refine Run.quiet (by intro h; cases h) ?_
          refine QOps.st rfl rfl (Yv.move rfl).yl ?_
          refine QOps.st rfl rfl (Yv.makeFunc .nil (.cons rfl (.cons rfl (.nil)))).yl ?_
          refine QOps.st rfl rfl (Yl.call callable50 (.cons rfl (.cons rfl (.nil))) (fun w' hw' => hasReport_spec (p := isNo v n) ((Rd.arg hs) w' hw') rfl callable51 (fun w'' hb i hi => MissingReports1_spec (Rd.blkE intC_len (i := 2) (x := v) rfl w'' (hw'.up hb)) (Rd.blkE intC_len (i := 0) (x := n) rfl w'' (hw'.up hb))))) ?_
          refine QOps.st rfl rfl (Yv.not rfl).yl ?_
          refine QOps.nil ?_
          refine Run.cond rfl (fun hc4 => ?_) (fun hc4 => ?_)
          · try replace hc4 := of_decide_eq_true hc4
            have h4 : hasTo rs v rs.length n = false := by unfold hasTo; simpa using hc4
            refine Run.ops ?_
            refine SOps.st rfl rfl (Yv.move rfl).yl ?_
            refine SOps.st rfl rfl (Yv.loadB (i := 0) lay3 rfl rfl rfl rfl).yl ?_
            refine SOps.one rfl (One.buildSliceG (pv := [(0, _)]) (cs := [_]) (fun l => match l with | [a0_0] => [a0_0] | _ => []) rfl el39 (.cons rfl (.nil)) rfl rfl (by kernel_rfl) rfl rfl (fun b4 => ?_))
            refine SOps.one rfl (One.append (enc := intC) (l := o) (l2 := [n]) (m' := (o ++ [n]).length) (i := 2) (H' := fun A c => [_, _, _, _]) rfl el39 zero3 rfl (by decide) rfl rfl rfl (Rd.row (i := 0) rfl) (fun _ => rfl) (by simp) (by simp; omega) (by simp; omega) (fun _ _ => rfl) (fun A1 c1 => ?_))
            refine SOps.st rfl rfl (Yv.assign rfl).yl ?_
            refine SOps.nil ?_
            refine Run.seq ?_
            refine Run.seq ?_
            refine Run.quiet (by intro h; cases h) ?_
            refine QOps.st rfl rfl (Yv.loadB (i := 1) lay3 rfl rfl rfl rfl).yl ?_
            refine QOps.nil ?_
            refine Run.ops ?_
            refine SOps.one rfl (One.alloc rfl zero3 (fun b5 => ?_))
            refine SOps.one rfl (One.store (i := 0) (off := 0) (vs := [_]) (cs' := [_]) (H' := [_, _, _, _, _]) lay3 rfl rfl rfl rfl rfl rfl rfl rfl rfl rfl ?_)
            refine SOps.nil ?_
            refine Run.ops ?_
            refine SOps.st rfl rfl (Yv.loadB (i := 0) lay3 rfl rfl rfl rfl).yl ?_
            refine SOps.st rfl rfl (Yv.add rfl rfl (by omega)).yl ?_
            refine SOps.one rfl (One.store (i := 0) (off := 0) (vs := [_]) (cs' := [_]) (H' := [_, _, _, _, _]) lay3 rfl rfl rfl rfl rfl rfl rfl rfl rfl rfl ?_)
            refine SOps.nil ?_
            refine ⟨(n + 1, _, _, _, _), ?_, ?_, (SubE.cons rfl (SubE.cons rfl (SubE.cons rfl (SubE.cons rfl (SubE.cons rfl (SubE.nil _)))))), (List.Sublist.cons_cons _ (List.Sublist.cons _ (List.Sublist.cons _ (List.Sublist.refl _))))⟩
            · exact ⟨by omega, by omega, by simp; omega, by rw [show n + 1 - 1 = n by omega, missTo_no (by omega) h4, ho]⟩
            · first | omega | (dsimp only; omega)
          · try replace hc4 := of_decide_eq_false hc4
            have h4 : hasTo rs v rs.length n = true := by unfold hasTo; simpa using hc4
            refine Run.skip ?_
            refine Run.seq ?_
            refine Run.seq ?_
            refine Run.quiet (by intro h; cases h) ?_
            refine QOps.st rfl rfl (Yv.loadB (i := 0) lay3 rfl rfl rfl rfl).yl ?_
            refine QOps.nil ?_
            refine Run.ops ?_
            refine SOps.one rfl (One.alloc rfl zero3 (fun b6 => ?_))
            refine SOps.one rfl (One.store (i := 0) (off := 0) (vs := [_]) (cs' := [_]) (H' := [_, _, _, _]) lay3 rfl rfl rfl rfl rfl rfl rfl rfl rfl rfl ?_)
            refine SOps.nil ?_
            refine Run.ops ?_
            refine SOps.st rfl rfl (Yv.loadB (i := 0) lay3 rfl rfl rfl rfl).yl ?_
            refine SOps.st rfl rfl (Yv.add rfl rfl (by omega)).yl ?_
            refine SOps.one rfl (One.store (i := 0) (off := 0) (vs := [_]) (cs' := [_]) (H' := [_, _, _, _]) lay3 rfl rfl rfl rfl rfl rfl rfl rfl rfl rfl ?_)
            refine SOps.nil ?_
            refine ⟨(n + 1, _, _, _, _), ?_, ?_, (SubE.cons rfl (SubE.cons rfl (SubE.cons rfl (SubE.cons rfl (SubE.cons rfl (SubE.nil _)))))), (List.Sublist.cons_cons _ (List.Sublist.cons _ (List.Sublist.refl _)))⟩
            · exact ⟨by omega, by omega, by omega, by rw [show n + 1 - 1 = n by omega, missTo_has (by omega) h4, ho]⟩
            · first | omega | (dsimp only; omega)
        · try replace hc3 := of_decide_eq_false hc3
          have hL : missL rs v = o := by unfold missL; rw [hLN, ho, show (nth rs j).number = n - 1 by omega]
          refine Run.exit ?_
          refine Run.seq ?_
          refine Run.seq ?_
          refine Run.quiet (by intro h; cases h) ?_
          refine QOps.st rfl rfl (Yv.move rfl).yl ?_
          refine QOps.st rfl rfl (Yv.lenS el39s rfl).yl ?_
          refine QOps.st rfl rfl (Yv.gtr rfl rfl).yl ?_
          refine QOps.nil ?_
          refine Run.cond rfl (fun hc5 => ?_) (fun hc5 => ?_)
          · try replace hc5 := of_decide_eq_true hc5
            refine Run.seq ?_
            refine Run.quiet (by intro h; cases h) ?_
            refine QOps.st rfl rfl (Yv.assign rfl).yl ?_
            refine QOps.st rfl rfl (Yv.assign rfl).yl ?_
            refine QOps.nil ?_
            refine Run.ret ?_
            refine retQ.of (.inr rfl) rfl (.tmp rfl (.tmp rfl .nil)) (fun w' hw' => ?_)
            unfold missOf; rw [if_pos hy, hL, if_pos hc5]; exact ⟨_, _, rfl, hw'.bel.below, ⟨by first | rfl | simp, .inl ⟨rfl, rfl⟩⟩, by simp⟩
          · try replace hc5 := of_decide_eq_false hc5
            refine Run.skip ?_
            refine Run.seq ?_
            refine Run.quiet (by intro h; cases h) ?_
            refine QOps.st rfl rfl (Yv.move rfl).yl ?_
            refine QOps.st rfl rfl (Yv.assign rfl).yl ?_
            refine QOps.st rfl rfl (Yv.assign rfl).yl ?_
            refine QOps.nil ?_
            refine Run.ret ?_
            refine retQ.of (.inr rfl) rfl (.tmp rfl (.tmp rfl .nil)) (fun w' hw' => ?_)
            unfold missOf; rw [if_pos hy, hL, if_neg hc5]; exact ⟨_, _, rfl, hw'.bel.below, hw'.ent _ (List.mem_of_getElem? (i := 1) rfl), fun g hg => (hw'.own _ (List.mem_of_getElem? (i := 1) rfl) g hg).elim id (by simp)⟩
theorem sMissingReports_spec {w : World} {A : Option Addr} {c : Nat} {rs : List Report} {v : Int} (hs : Sl w 6 A rs.length c (rs.flatMap Report.enc)) : Calls Try.prog 31 #[.slice A rs.length c, .int .i64 v] w (RetRow w 3 1 (missOf rs v).1.length ((missOf rs v).1.flatMap intC) (fun s => .tuple #[s, .bool (missOf rs v).2])) := by
  have hmx := Sl.lenle hs
  refine calls_of_run (vs := [_, _]) (L := [(0, _), (1, _)]) (n := 58) (F := []) (H := []) Try.func31 rfl rfl rfl rfl (HOk.start _) ?_
  refine Run.seq ?_
  refine Run.quiet (by intro h; cases h) ?_
  refine QOps.st rfl rfl (Yv.assign rfl).yl ?_
  refine QOps.st rfl rfl (Yv.assign rfl).yl ?_
  refine QOps.nil ?_
  refine Run.seq ?_
  refine Run.ops ?_
  refine SOps.one rfl (One.buildSliceG (pv := []) (cs := []) (fun _ => []) rfl el39 .nil rfl rfl (by kernel_rfl) rfl rfl (fun b1 => ?_))
  refine SOps.st rfl rfl (Yv.assign rfl).yl ?_
  refine SOps.nil ?_
  refine Run.seq ?_
  refine Run.seq ?_
  refine Run.quiet (by intro h; cases h) ?_
  refine QOps.st rfl rfl (Yv.move rfl).yl ?_
  refine QOps.st rfl rfl (Yl.call callable45 (.cons rfl (.nil)) (fun w' hw' => l20File_spec ((Rd.arg hs) w' hw'))) ?_
  refine QOps.st rfl rfl (Yv.not rfl).yl ?_
  refine QOps.st rfl rfl (Yv.move rfl).yl ?_
  refine' QOps.or [_, _, _] _ (.tmp 17) rfl rfl rfl rfl rfl rfl (fun hg1 => ?_) ?_
  rotate_left
  · try replace hg1 := of_decide_eq_false hg1
    refine QOps.st rfl rfl (Yv.move rfl).yl ?_
    refine QOps.st rfl rfl (Yl.call callable49 (.cons rfl (.cons rfl (.cons rfl (.nil)))) (fun w' hw' => l1In_spec)) ?_
    refine QOps.st rfl rfl (Yv.not rfl).yl ?_
    exact QOps.nil rfl
  refine QOps.nil ?_
  refine Run.cond rfl (fun hc1 => ?_) (fun hc1 => ?_)
  · try replace hc1 := of_decide_eq_true hc1
    have hn : missOk rs v = false := by unfold missOk; revert hc1; cases isFile rs <;> cases inB v 1 99 <;> simp
    refine Run.seq ?_
    refine Run.quiet (by intro h; cases h) ?_
    refine QOps.st rfl rfl (Yv.move rfl).yl ?_
    refine QOps.st rfl rfl (Yv.assign rfl).yl ?_
    refine QOps.st rfl rfl (Yv.assign rfl).yl ?_
    refine QOps.nil ?_
    refine Run.ret ?_
    refine retQ.of (.inr rfl) rfl (.tmp rfl (.tmp rfl .nil)) (fun w' hw' => ?_)
    unfold missOf; rw [if_neg (by rw [hn]; simp)]; exact ⟨_, _, rfl, hw'.bel.below, hw'.ent _ (List.mem_of_getElem? (i := 0) rfl), fun g hg => (hw'.own _ (List.mem_of_getElem? (i := 0) rfl) g hg).elim id (by simp)⟩
  · try replace hc1 := of_decide_eq_false hc1
    have hy : missOk rs v = true := by unfold missOk; revert hc1; cases isFile rs <;> cases inB v 1 99 <;> simp
    have hf : isFile rs = true := by simp only [missOk, Bool.and_eq_true] at hy; exact hy.1
    refine Run.skip ?_
    refine Run.seq ?_
    refine Run.quiet (by intro h; cases h) ?_
    refine QOps.st rfl rfl (Yv.assign rfl).yl ?_
    refine QOps.nil ?_
    refine Run.seq ?_
    refine Run.seq ?_
    refine Run.quiet (by intro h; cases h) ?_
    refine QOps.st rfl rfl (Yv.assign rfl).yl ?_
    refine QOps.nil ?_
    refine Run.block ?_
    refine Run.loop (S := Nat × Int × List Int × Option Addr × Nat) (fun s => match s with | (k, l, o, A2, c2) => k ≤ rs.length ∧ l = lastNum rs v k ∧ 0 ≤ l ∧ l ≤ 999 ∧ (o.length : Int) ≤ l ∧ o = missTo (hasTo rs v k) l.toNat) (fun s => match s with | (k, l, o, A2, c2) => [(0, .slice A rs.length c), (1, .int .i64 v), (6, .slice A2 o.length c2), (7, .int .i64 l), (8, .int .i64 (k : Int))]) (fun s => match s with | (k, l, o, A2, c2) => [.row A2 c2 3 1 o.length (o.flatMap intC)]) (fun s => match s with | (k, l, o, A2, c2) => rs.length - k) (0, 0, [], some ⟨b1, 0, none⟩, 0) ?_ (SubE.cons rfl (SubE.cons rfl (SubE.cons rfl (SubE.cons rfl (SubE.cons rfl (SubE.nil _)))))) (List.Sublist.refl _) ?_
    · exact ⟨by omega, rfl, by omega, by omega, by simp, rfl⟩
    · rintro ⟨k, l, o, A2, c2⟩ ⟨hk, hl, hl0, hl9, hol, ho⟩
      show Run _ _ _ _ _ [(0, .slice A rs.length c), (1, .int .i64 v), (6, .slice A2 o.length c2), (7, .int .i64 l), (8, .int .i64 (k : Int))] [.row A2 c2 3 1 o.length (o.flatMap intC)] _
      refine Run.seq ?_
      refine Run.seq ?_
      refine Run.quiet (by intro h; cases h) ?_
      refine QOps.st rfl rfl (Yv.move rfl).yl ?_
      refine QOps.st rfl rfl (Yv.move rfl).yl ?_
      refine QOps.st rfl rfl (Yv.lenS el31s rfl).yl ?_
      refine QOps.st rfl rfl (Yv.lss rfl rfl).yl ?_
      refine QOps.nil ?_
      refine Run.cond rfl (fun hc2 => ?_) (fun hc2 => ?_)
      · try replace hc2 := of_decide_eq_true hc2
        refine Run.skip ?_
        refine Run.seq ?_
        refine Run.block ?_
        refine Run.seq ?_
        refine Run.seq ?_
        refine Run.quiet (by intro h; cases h) ?_
        refine QOps.st rfl rfl (Yv.move rfl).yl ?_
        refine QOps.st rfl rfl (Yv.move rfl).yl ?_
        refine QOps.st rfl rfl (Yv.indexAddr k el31 rfl rfl rfl (Rd.arg hs) (by omega)).yl ?_
        refine QOps.st rfl rfl (Yv.fieldAddr fld25_0 rfl).yl ?_
        refine QOps.st rfl rfl (Yv.loadF lay3 rfl Report.len (Rd.arg hs) (by first | omega | (simp; omega)) (by decide) rfl).yl ?_
        refine QOps.st rfl rfl (Yv.move rfl).yl ?_
        refine QOps.st rfl rfl (Yv.neI rfl rfl).yl ?_
        refine QOps.nil ?_
        refine Run.cond rfl (fun hc3 => ?_) (fun hc3 => ?_)
        · try replace hc3 := of_decide_eq_true hc3
          refine Run.exit ?_
          refine Run.quiet (by intro h; cases h) ?_
          refine QOps.st rfl rfl (Yv.move rfl).yl ?_
          refine QOps.st rfl rfl (Yv.succN rfl rfl (by omega)).yl ?_
          refine QOps.st rfl rfl (Yv.assign rfl).yl ?_
          refine QOps.nil ?_
          refine ⟨(k + 1, l, o, A2, c2), ?_, ?_, (SubE.cons rfl (SubE.cons rfl (SubE.cons rfl (SubE.cons rfl (SubE.cons rfl (SubE.nil _)))))), (List.Sublist.refl _)⟩
          · exact ⟨by omega, by rw [lastNum, if_neg (by simpa using hc3), hl], hl0, hl9, hol, by rw [ho]; exact missTo_congr (fun i _ _ => by rw [hasTo_succ]; simp [isNo, show ¬ (nth rs k).vessel = v by simpa using hc3])⟩
          · first | omega | (dsimp only; omega)
        · try replace hc3 := of_decide_eq_false hc3
          have hv : (nth rs k).vessel = v := by simpa using hc3
          have hN := file_num hf (k := k) (by omega)
          have hlt := lastNum_lt hf (k := k) (by omega) hv
          refine Run.skip ?_
          refine Run.seq ?_
          refine Run.seq ?_
          refine Run.quiet (by intro h; cases h) ?_
          refine QOps.st rfl rfl (Yv.move rfl).yl ?_
          refine QOps.st rfl rfl (Yv.add rfl rfl (by omega)).yl ?_
          refine QOps.st rfl rfl (Yv.assign rfl).yl ?_
          refine QOps.nil ?_
          refine Run.block ?_
          refine Run.loop (S := Int × List Int × Option Addr × Nat) (fun s => match s with | (n, o, A2, c2) => l + 1 ≤ n ∧ n ≤ (nth rs k).number ∧ (o.length : Int) ≤ n - 1 ∧ o = missTo (hasTo rs v k) (n - 1).toNat) (fun s => match s with | (n, o, A2, c2) => [(0, .slice A rs.length c), (1, .int .i64 v), (6, .slice A2 o.length c2), (8, .int .i64 (k : Int)), (9, .int .i64 n)]) (fun s => match s with | (n, o, A2, c2) => [.row A2 c2 3 1 o.length (o.flatMap intC)]) (fun s => match s with | (n, o, A2, c2) => ((nth rs k).number - n).toNat) (l + 1, o, A2, c2) ?_ (SubE.cons rfl (SubE.cons rfl (SubE.cons rfl (SubE.cons rfl (SubE.cons rfl (SubE.nil _)))))) (List.Sublist.refl _) ?_
          · exact ⟨by omega, by omega, by omega, by rw [ho, show l + 1 - 1 = l by omega]⟩
          · rintro ⟨n, o, A2, c2⟩ ⟨hn1, hn2, hol, ho⟩
            show Run _ _ _ _ _ [(0, .slice A rs.length c), (1, .int .i64 v), (6, .slice A2 o.length c2), (8, .int .i64 (k : Int)), (9, .int .i64 n)] [.row A2 c2 3 1 o.length (o.flatMap intC)] _
            refine Run.seq ?_
            refine Run.seq ?_
            refine Run.quiet (by intro h; cases h) ?_
            refine QOps.st rfl rfl (Yv.move rfl).yl ?_
            refine QOps.st rfl rfl (Yv.move rfl).yl ?_
            refine QOps.st rfl rfl (Yv.move rfl).yl ?_
            refine QOps.st rfl rfl (Yv.indexAddr k el31 rfl rfl rfl (Rd.arg hs) (by omega)).yl ?_
            refine QOps.st rfl rfl (Yv.fieldAddr fld25_1 rfl).yl ?_
            refine QOps.st rfl rfl (Yv.loadF lay3 rfl Report.len (Rd.arg hs) (by first | omega | (simp; omega)) (by decide) rfl).yl ?_
            refine QOps.st rfl rfl (Yv.lss rfl rfl).yl ?_
            refine QOps.nil ?_
            refine Run.cond rfl (fun hc4 => ?_) (fun hc4 => ?_)
            · try replace hc4 := of_decide_eq_true hc4
              refine Run.skip ?_
              refine Run.seq ?_
              refine Run.block ?_
              refine Run.ops ?_
              refine SOps.st rfl rfl (Yv.move rfl).yl ?_
              refine SOps.st rfl rfl (Yv.move rfl).yl ?_
              refine SOps.one rfl (One.buildSliceG (pv := [(0, _)]) (cs := [_]) (fun l => match l with | [a0_0] => [a0_0] | _ => []) rfl el39 (.cons rfl (.nil)) rfl rfl (by kernel_rfl) rfl rfl (fun b2 => ?_))
              refine SOps.one rfl (One.append (enc := intC) (l := o) (l2 := [n]) (m' := (o ++ [n]).length) (i := 1) (H' := fun A c => [_, _]) rfl el39 zero3 rfl (by decide) rfl rfl rfl (Rd.row (i := 0) rfl) (fun _ => rfl) (by simp) (by simp; omega) (by simp; omega) (fun _ _ => rfl) (fun A1 c1 => ?_))
              refine SOps.st rfl rfl (Yv.assign rfl).yl ?_
              refine SOps.nil ?_
              refine Run.quiet (by intro h; cases h) ?_
              refine QOps.st rfl rfl (Yv.move rfl).yl ?_
              refine QOps.st rfl rfl (Yv.add rfl rfl (by omega)).yl ?_
              refine QOps.st rfl rfl (Yv.assign rfl).yl ?_
              refine QOps.nil ?_
              refine ⟨(n + 1, _, _, _), ?_, ?_, (SubE.cons rfl (SubE.cons rfl (SubE.cons rfl (SubE.cons rfl (SubE.cons rfl (SubE.nil _)))))), (List.Sublist.cons _ (List.Sublist.refl _))⟩
              · exact ⟨by omega, by omega, by simp; omega, by rw [show n + 1 - 1 = n by omega, missTo_no (by omega) (Bool.eq_false_iff.2 (fun h => by have := hasTo_le hf (by omega) h; omega)), ho]⟩
              · first | omega | (dsimp only; omega)
            · try replace hc4 := of_decide_eq_false hc4
              refine Run.exit ?_
              refine Run.quiet (by intro h; cases h) ?_
              refine QOps.st rfl rfl (Yv.move rfl).yl ?_
              refine QOps.st rfl rfl (Yv.move rfl).yl ?_
              refine QOps.st rfl rfl (Yv.indexAddr k el31 rfl rfl rfl (Rd.arg hs) (by omega)).yl ?_
              refine QOps.st rfl rfl (Yv.fieldAddr fld25_1 rfl).yl ?_
              refine QOps.st rfl rfl (Yv.loadF lay3 rfl Report.len (Rd.arg hs) (by first | omega | (simp; omega)) (by decide) rfl).yl ?_
              refine QOps.st rfl rfl (Yv.assign rfl).yl ?_
              refine QOps.nil ?_
              refine Run.quiet (by intro h; cases h) ?_
              refine QOps.st rfl rfl (Yv.move rfl).yl ?_
              refine QOps.st rfl rfl (Yv.succN rfl rfl (by omega)).yl ?_
              refine QOps.st rfl rfl (Yv.assign rfl).yl ?_
              refine QOps.nil ?_
              refine ⟨(k + 1, _, o, A2, c2), ?_, ?_, (SubE.cons rfl (SubE.cons rfl (SubE.cons rfl (SubE.cons rfl (SubE.cons rfl (SubE.nil _)))))), (List.Sublist.refl _)⟩
              · exact ⟨by omega, by rw [lastNum, if_pos hv], by omega, by omega, by omega, by rw [missTo_has (by omega) (by rw [hasTo_succ]; simp [isNo, hv]), ho, show n = (nth rs k).number by omega]; exact missTo_congr (fun i h1 h2 => by rw [hasTo_succ]; simp [isNo, show ¬ (nth rs k).number = i by omega])⟩
              · first | omega | (dsimp only; omega)
      · try replace hc2 := of_decide_eq_false hc2
        refine Run.exit ?_
        refine Run.seq ?_
        refine Run.seq ?_
        refine Run.quiet (by intro h; cases h) ?_
        refine QOps.st rfl rfl (Yv.move rfl).yl ?_
        refine QOps.st rfl rfl (Yv.lenS el39s rfl).yl ?_
        refine QOps.st rfl rfl (Yv.gtr rfl rfl).yl ?_
        refine QOps.nil ?_
        refine Run.cond rfl (fun hc5 => ?_) (fun hc5 => ?_)
        · try replace hc5 := of_decide_eq_true hc5
          refine Run.seq ?_
          refine Run.ops ?_
          refine SOps.one rfl (One.buildSliceG (pv := []) (cs := []) (fun _ => []) rfl el39 .nil rfl rfl (by kernel_rfl) rfl rfl (fun b3 => ?_))
          refine SOps.st rfl rfl (Yv.assign rfl).yl ?_
          refine SOps.st rfl rfl (Yv.assign rfl).yl ?_
          refine SOps.nil ?_
          refine Run.ret ?_
          obtain rfl : k = rs.length := by omega
          have hL : missL rs v = o := by unfold missL; rw [← hl, ho]
          refine retQ.of (.inr rfl) rfl (.tmp rfl (.tmp rfl .nil)) (fun w' hw' => ?_)
          unfold missOf; rw [if_pos hy, hL, if_pos hc5]; exact ⟨_, _, rfl, hw'.bel.below, hw'.ent _ (List.mem_of_getElem? (i := 0) rfl), fun g hg => (hw'.own _ (List.mem_of_getElem? (i := 0) rfl) g hg).elim id (by simp)⟩
        · try replace hc5 := of_decide_eq_false hc5
          refine Run.skip ?_
          refine Run.seq ?_
          refine Run.quiet (by intro h; cases h) ?_
          refine QOps.st rfl rfl (Yv.move rfl).yl ?_
          refine QOps.st rfl rfl (Yv.assign rfl).yl ?_
          refine QOps.st rfl rfl (Yv.assign rfl).yl ?_
          refine QOps.nil ?_
          refine Run.ret ?_
          obtain rfl : k = rs.length := by omega
          have hL : missL rs v = o := by unfold missL; rw [← hl, ho]
          refine retQ.of (.inr rfl) rfl (.tmp rfl (.tmp rfl .nil)) (fun w' hw' => ?_)
          unfold missOf; rw [if_pos hy, hL, if_neg hc5]; exact ⟨_, _, rfl, hw'.bel.below, hw'.ent _ (List.mem_of_getElem? (i := 0) rfl), fun g hg => (hw'.own _ (List.mem_of_getElem? (i := 0) rfl) g hg).elim id (by simp)⟩
theorem FnExactMissingReports_spec {w : World} {A : Option Addr} {c : Nat} {rs : List Report} {v : Int} (hs : Sl w 6 A rs.length c (rs.flatMap Report.enc)) (hb : 48 * rs.length ≤ 281474976710656) :
    Calls Try.prog 8 #[.slice A rs.length c, .int .i64 v] w (RetB w (.bool true)) := by
  have hgl := missOf_len (rs := rs) (v := v)
  refine calls_of_run (vs := [_, _]) (L := [(0, _), (1, _)]) (n := 101) (F := []) (H := []) Try.func8 rfl rfl rfl rfl (HOk.start _) ?_
  refine Run.seq ?_
  refine Run.quiet (by intro h; cases h) ?_
  refine QOps.st rfl rfl (Yv.assign rfl).yl ?_
  refine QOps.nil ?_
  refine Run.seq ?_
  refine Run.quiet (by intro h; cases h) ?_
  refine QOps.st rfl rfl (Yv.assign rfl).yl ?_
  refine QOps.nil ?_
  refine Run.seq ?_
  refine Run.quiet (by intro h; cases h) ?_
  refine QOps.st rfl rfl (Yv.move rfl).yl ?_
  refine QOps.st rfl rfl (Yv.move rfl).yl ?_
  refine QOps.st rfl rfl (Yl.call callable14 (.cons rfl (.cons rfl (.nil))) (fun w' hw' => szEReportS_spec (by omega) (by omega) (by omega))) ?_
  refine QOps.st rfl rfl (Yv.assign rfl).yl ?_
  refine QOps.nil ?_
  refine Run.seq ?_
  refine Run.seq ?_
  refine Run.quiet (by intro h; cases h) ?_
  refine QOps.st rfl rfl (Yv.move rfl).yl ?_
  refine QOps.st rfl rfl (Yv.lss rfl rfl).yl ?_
  refine QOps.nil ?_
  refine Run.cond rfl (fun hc1 => ?_) (fun hc1 => ?_)
  · try replace hc1 := of_decide_eq_true hc1
    refine Run.seq ?_
    refine Run.quiet (by intro h; cases h) ?_
    refine QOps.st rfl rfl (Yv.assign rfl).yl ?_
    refine QOps.nil ?_
    refine Run.ret ?_
    refine retQ.of (.inr rfl) rfl (.tmp rfl .nil) (fun w' hw' => ?_)
    refine ⟨?_, hw'.bel.below⟩
    exact rfl
  · try replace hc1 := of_decide_eq_false hc1
    have hn1 : rs.length ≤ 1048576 := by split at hc1 <;> omega
    refine Run.skip ?_
    refine Run.seq ?_
    refine Run.ops ?_
    refine SOps.st rfl rfl (Yv.move rfl).yl ?_
    refine SOps.one rfl (One.callRow rfl callable16 (.cons rfl (.nil)) (fun w' hw' => toEReportS_spec ((Rd.arg hs) w' hw') (by omega)) (fun A1 c1 => ?_))
    refine SOps.st rfl rfl (Yv.move rfl).yl ?_
    refine SOps.one rfl (One.callRow rfl callable31 (.cons rfl (.cons rfl (.nil))) (fun w' hw' => sMissingReports_spec ((Rd.row (i := 0) rfl) w' hw')) (fun A2 c2 => ?_))
    refine SOps.st rfl rfl (Yv.move rfl).yl ?_
    refine SOps.st rfl rfl (Yv.extract rfl rfl).yl ?_
    refine SOps.st rfl rfl (Yv.extract rfl rfl).yl ?_
    refine SOps.st rfl rfl (Yv.assign rfl).yl ?_
    refine SOps.st rfl rfl (Yv.assign rfl).yl ?_
    refine SOps.nil ?_
    refine Run.seq ?_
    refine Run.ops ?_
    refine SOps.st rfl rfl (Yv.move rfl).yl ?_
    refine SOps.one rfl (One.callRow rfl callable16 (.cons rfl (.nil)) (fun w' hw' => toEReportS_spec ((Rd.arg hs) w' hw') (by omega)) (fun A3 c3 => ?_))
    refine SOps.st rfl rfl (Yv.assign rfl).yl ?_
    refine SOps.nil ?_
    refine Run.seq ?_
    refine Run.ops ?_
    refine SOps.st rfl rfl (Yv.move rfl).yl ?_
    refine SOps.st rfl rfl (Yv.move rfl).yl ?_
    refine SOps.one rfl (One.callRow rfl callable32 (.cons rfl (.cons rfl (.nil))) (fun w' hw' => MissingReports_spec ((Rd.row (i := 0) rfl) w' hw')) (fun A4 c4 => ?_))
    refine SOps.st rfl rfl (Yv.move rfl).yl ?_
    refine SOps.st rfl rfl (Yv.extract rfl rfl).yl ?_
    refine SOps.st rfl rfl (Yv.extract rfl rfl).yl ?_
    refine SOps.st rfl rfl (Yv.assign rfl).yl ?_
    refine SOps.st rfl rfl (Yv.assign rfl).yl ?_
    refine SOps.nil ?_
    refine Run.seq ?_
    refine Run.seq ?_
    refine Run.quiet (by intro h; cases h) ?_
    refine QOps.st rfl rfl (Yv.move rfl).yl ?_
    refine QOps.st rfl rfl (Yv.move rfl).yl ?_
    refine QOps.st rfl rfl (Yl.call callable24 (.cons rfl (.cons rfl (.nil))) (fun w' hw' => eqIntS_spec ((Rd.row (i := 0) rfl) w' hw') ((Rd.row (i := 2) rfl) w' hw'))) ?_
    refine QOps.st rfl rfl (Yv.not rfl).yl ?_
    refine QOps.st rfl rfl (Yv.move rfl).yl ?_
    refine' QOps.or [_, _, _] _ (.tmp 43) rfl rfl rfl rfl rfl rfl (fun hg1 => ?_) ?_
    rotate_left
    · try replace hg1 := of_decide_eq_false hg1
      refine QOps.st rfl rfl (Yv.move rfl).yl ?_
      refine QOps.st rfl rfl (Yv.move rfl).yl ?_
      refine QOps.st rfl rfl (Yv.neB bool4 rfl rfl).yl ?_
      exact QOps.nil rfl
    refine QOps.nil ?_
    refine Run.cond rfl (fun hc2 => ?_) (fun hc2 => ?_)
    · exfalso
      first | (simp at hc2; done) | (simp at hc2; omega) | omega
    · try replace hc2 := of_decide_eq_false hc2
      refine Run.skip ?_
      refine Run.seq ?_
      refine Run.seq ?_
      refine Run.ops ?_
      refine SOps.st rfl rfl (Yv.move rfl).yl ?_
      refine SOps.st rfl rfl (Yv.move rfl).yl ?_
      refine SOps.one rfl (One.callRow rfl callable16 (.cons rfl (.nil)) (fun w' hw' => toEReportS_spec ((Rd.arg hs) w' hw') (by omega)) (fun A5 c5 => ?_))
      refine SOps.st rfl rfl (Yl.call callable18 (.cons rfl (.cons rfl (.nil))) (fun w' hw' => eqEReportS_spec ((Rd.row (i := 2) rfl) w' hw') ((Rd.row (i := 0) rfl) w' hw'))) ?_
      refine SOps.st rfl rfl (Yv.not rfl).yl ?_
      refine SOps.nil ?_
      refine Run.cond rfl (fun hc3 => ?_) (fun hc3 => ?_)
      · exfalso
        first | (simp at hc3; done) | (simp at hc3; omega) | omega
      · try replace hc3 := of_decide_eq_false hc3
        refine Run.skip ?_
        refine Run.seq ?_
        refine Run.quiet (by intro h; cases h) ?_
        refine QOps.st rfl rfl (Yv.assign rfl).yl ?_
        refine QOps.nil ?_
        refine Run.seq ?_
        refine Run.ops ?_
        refine SOps.st rfl rfl (Yv.move rfl).yl ?_
        refine SOps.st rfl rfl (Yv.move rfl).yl ?_
        refine SOps.one rfl (One.callMut (i := 2) (H' := [_, _, _, _, _]) rfl callable25 (.cons rfl (.cons rfl (.nil))) rfl (fun w' hw' => markEReportS_spec (hw'.ent _ (List.mem_of_getElem? (i := 2) rfl)) (by omega) (by omega) (by omega)) rfl ?_)
        refine SOps.st rfl rfl (Yv.assign rfl).yl ?_
        refine SOps.nil ?_
        refine Run.seq ?_
        refine Run.seq ?_
        refine Run.quiet (by intro h; cases h) ?_
        refine QOps.st rfl rfl (Yv.move rfl).yl ?_
        refine QOps.st rfl rfl (Yv.lss rfl rfl).yl ?_
        refine QOps.st rfl rfl (Yv.move rfl).yl ?_
        refine' QOps.or [_, _, _, _] _ (.tmp 59) rfl rfl rfl rfl rfl rfl (fun hg2 => ?_) ?_
        rotate_left
        · try replace hg2 := of_decide_eq_false hg2
          refine QOps.st rfl rfl (Yv.move rfl).yl ?_
          refine QOps.st rfl rfl (Yv.move rfl).yl ?_
          refine QOps.st rfl rfl (Yl.call callable24 (.cons rfl (.cons rfl (.nil))) (fun w' hw' => eqIntS_spec ((Rd.row (i := 1) rfl) w' hw') ((Rd.row (i := 3) rfl) w' hw'))) ?_
          refine QOps.st rfl rfl (Yv.not rfl).yl ?_
          exact QOps.nil rfl
        refine QOps.st rfl rfl (Yv.move rfl).yl ?_
        refine' QOps.or [_, _, _] _ (.tmp 64) rfl rfl rfl rfl rfl rfl (fun hg3 => ?_) ?_
        rotate_left
        · try replace hg3 := of_decide_eq_false hg3
          refine QOps.st rfl rfl (Yv.move rfl).yl ?_
          refine QOps.st rfl rfl (Yv.move rfl).yl ?_
          refine QOps.st rfl rfl (Yv.neB bool4 rfl rfl).yl ?_
          exact QOps.nil rfl
        refine QOps.nil ?_
        refine Run.cond rfl (fun hc4 => ?_) (fun hc4 => ?_)
        · exfalso
          first | (simp at hc4; done) | (simp at hc4; omega) | omega
        · try replace hc4 := of_decide_eq_false hc4
          refine Run.skip ?_
          refine Run.seq ?_
          refine Run.quiet (by intro h; cases h) ?_
          refine QOps.st rfl rfl (Yv.assign rfl).yl ?_
          refine QOps.nil ?_
          refine Run.seq ?_
          refine Run.ops ?_
          refine SOps.st rfl rfl (Yv.move rfl).yl ?_
          refine SOps.st rfl rfl (Yv.move rfl).yl ?_
          refine SOps.one rfl (One.callMut (i := 1) (H' := [_, _, _, _, _]) rfl callable26 (.cons rfl (.cons rfl (.nil))) rfl (fun w' hw' => markIntS_spec (hw'.ent _ (List.mem_of_getElem? (i := 1) rfl)) (by omega) (by omega) (by omega)) rfl ?_)
          refine SOps.st rfl rfl (Yv.assign rfl).yl ?_
          refine SOps.nil ?_
          refine Run.seq ?_
          refine Run.quiet (by intro h; cases h) ?_
          refine QOps.st rfl rfl (Yv.assign rfl).yl ?_
          refine QOps.nil ?_
          refine Run.seq ?_
          refine Run.quiet (by intro h; cases h) ?_
          refine QOps.st rfl rfl (Yv.move rfl).yl ?_
          refine QOps.st rfl rfl (Yv.move rfl).yl ?_
          refine QOps.st rfl rfl (Yl.call callable27 (.cons rfl (.cons rfl (.nil))) (fun w' hw' => heldIntS_spec ((Rd.row (i := 1) rfl) w' hw') (by omega) (by omega) (by omega))) ?_
          refine QOps.st rfl rfl (Yv.assign rfl).yl ?_
          refine QOps.nil ?_
          refine Run.seq ?_
          refine Run.seq ?_
          refine Run.quiet (by intro h; cases h) ?_
          refine QOps.st rfl rfl (Yv.move rfl).yl ?_
          refine QOps.st rfl rfl (Yv.lss rfl rfl).yl ?_
          refine QOps.nil ?_
          refine Run.cond rfl (fun hc5 => ?_) (fun hc5 => ?_)
          · exfalso
            first | (simp at hc5; done) | (simp at hc5; omega) | omega
          · try replace hc5 := of_decide_eq_false hc5
            refine Run.skip ?_
            refine Run.seq ?_
            refine Run.seq ?_
            refine Run.quiet (by intro h; cases h) ?_
            refine QOps.st rfl rfl (Yv.move rfl).yl ?_
            refine QOps.st rfl rfl (Yv.move rfl).yl ?_
            refine QOps.st rfl rfl (Yv.neI rfl rfl).yl ?_
            refine QOps.nil ?_
            refine Run.cond rfl (fun hc6 => ?_) (fun hc6 => ?_)
            · exfalso
              first | (simp at hc6; done) | (simp at hc6; omega) | omega
            · try replace hc6 := of_decide_eq_false hc6
              refine Run.skip ?_
              refine Run.seq ?_
              refine Run.ops ?_
              refine SOps.st rfl rfl (Yv.move rfl).yl ?_
              refine SOps.one rfl (One.callRow rfl callable16 (.cons rfl (.nil)) (fun w' hw' => toEReportS_spec ((Rd.arg hs) w' hw') (by omega)) (fun A6 c6 => ?_))
              refine SOps.st rfl rfl (Yv.move rfl).yl ?_
              refine SOps.one rfl (One.callRow rfl callable32 (.cons rfl (.cons rfl (.nil))) (fun w' hw' => MissingReports_spec ((Rd.row (i := 0) rfl) w' hw')) (fun A7 c7 => ?_))
              refine SOps.st rfl rfl (Yv.move rfl).yl ?_
              refine SOps.st rfl rfl (Yv.extract rfl rfl).yl ?_
              refine SOps.st rfl rfl (Yv.extract rfl rfl).yl ?_
              refine SOps.st rfl rfl (Yv.assign rfl).yl ?_
              refine SOps.st rfl rfl (Yv.assign rfl).yl ?_
              refine SOps.nil ?_
              refine Run.seq ?_
              refine Run.seq ?_
              refine Run.quiet (by intro h; cases h) ?_
              refine QOps.st rfl rfl (Yv.move rfl).yl ?_
              refine QOps.st rfl rfl (Yv.move rfl).yl ?_
              refine QOps.st rfl rfl (Yl.call callable24 (.cons rfl (.cons rfl (.nil))) (fun w' hw' => eqIntS_spec ((Rd.row (i := 0) rfl) w' hw') ((Rd.row (i := 5) rfl) w' hw'))) ?_
              refine QOps.st rfl rfl (Yv.not rfl).yl ?_
              refine QOps.st rfl rfl (Yv.move rfl).yl ?_
              refine' QOps.or [_, _, _] _ (.tmp 91) rfl rfl rfl rfl rfl rfl (fun hg4 => ?_) ?_
              rotate_left
              · try replace hg4 := of_decide_eq_false hg4
                refine QOps.st rfl rfl (Yv.move rfl).yl ?_
                refine QOps.st rfl rfl (Yv.move rfl).yl ?_
                refine QOps.st rfl rfl (Yv.neB bool4 rfl rfl).yl ?_
                exact QOps.nil rfl
              refine QOps.nil ?_
              refine Run.cond rfl (fun hc7 => ?_) (fun hc7 => ?_)
              · exfalso
                first | (simp at hc7; done) | (simp at hc7; omega) | omega
              · try replace hc7 := of_decide_eq_false hc7
                refine Run.skip ?_
                refine Run.seq ?_
                refine Run.quiet (by intro h; cases h) ?_
                refine QOps.st rfl rfl (Yv.assign rfl).yl ?_
                refine QOps.nil ?_
                refine Run.seq ?_
                refine Run.quiet (by intro h; cases h) ?_
                refine QOps.st rfl rfl (Yv.move rfl).yl ?_
                refine QOps.st rfl rfl (Yv.move rfl).yl ?_
                refine QOps.st rfl rfl (Yl.call callable27 (.cons rfl (.cons rfl (.nil))) (fun w' hw' => heldIntS_spec ((Rd.row (i := 3) rfl) w' hw') (by omega) (by omega) (by omega))) ?_
                refine QOps.st rfl rfl (Yv.assign rfl).yl ?_
                refine QOps.nil ?_
                refine Run.seq ?_
                refine Run.seq ?_
                refine Run.quiet (by intro h; cases h) ?_
                refine QOps.st rfl rfl (Yv.move rfl).yl ?_
                refine QOps.st rfl rfl (Yv.lss rfl rfl).yl ?_
                refine QOps.nil ?_
                refine Run.cond rfl (fun hc8 => ?_) (fun hc8 => ?_)
                · exfalso
                  first | (simp at hc8; done) | (simp at hc8; omega) | omega
                · try replace hc8 := of_decide_eq_false hc8
                  refine Run.skip ?_
                  refine Run.seq ?_
                  refine Run.seq ?_
                  refine Run.quiet (by intro h; cases h) ?_
                  refine QOps.st rfl rfl (Yv.move rfl).yl ?_
                  refine QOps.st rfl rfl (Yv.move rfl).yl ?_
                  refine QOps.st rfl rfl (Yv.neI rfl rfl).yl ?_
                  refine QOps.nil ?_
                  refine Run.cond rfl (fun hc9 => ?_) (fun hc9 => ?_)
                  · exfalso
                    first | (simp at hc9; done) | (simp at hc9; omega) | omega
                  · try replace hc9 := of_decide_eq_false hc9
                    refine Run.skip ?_
                    refine Run.seq ?_
                    refine Run.quiet (by intro h; cases h) ?_
                    refine QOps.st rfl rfl (Yv.assign rfl).yl ?_
                    refine QOps.nil ?_
                    refine Run.ret ?_
                    refine retQ.of (.inr rfl) rfl (.tmp rfl .nil) (fun w' hw' => ?_)
                    refine ⟨?_, hw'.bel.below⟩
                    exact rfl

end Go.Proofs.Ytlpgcbkialcjcaa
