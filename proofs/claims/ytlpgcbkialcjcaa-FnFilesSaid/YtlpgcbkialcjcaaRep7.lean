/- Reports: missing ones and those that are there, what forgetting keeps. Conditions: none. -/
import Derived.Test.YtlpgcbkialcjcaaRep6
namespace Go.Proofs.Ytlpgcbkialcjcaa
open Go.RowKit
set_option maxRecDepth 100000
/-! The missing numbers and the reports that are there -/
def cntTo (rs : List Report) (v : Int) : Nat → Int
  | 0 => 0
  | k + 1 => if (nth rs k).vessel = v then cntTo rs v k + 1 else cntTo rs v k
theorem cntTo_range {rs : List Report} {v : Int} : ∀ {k : Nat}, 0 ≤ cntTo rs v k ∧ cntTo rs v k ≤ (k : Int)
  | 0 => ⟨Int.le_refl _, Int.le_refl _⟩
  | k + 1 => by
    have ih := cntTo_range (rs := rs) (v := v) (k := k)
    rw [cntTo]
    split <;> omega
theorem missTo_none {has : Int → Bool} {l : Nat} : ∀ {m : Nat}, l ≤ m → (∀ i : Int, (l : Int) < i → i ≤ (m : Int) → has i = false) → (missTo has m).length = (missTo has l).length + (m - l)
  | 0, h, _ => by
    obtain rfl : l = 0 := by omega
    simp
  | m + 1, h, hn => by
    rcases Nat.lt_or_ge l (m + 1) with h1 | h1
    · rw [missTo, if_neg (by rw [hn ((m : Int) + 1) (by omega) (by omega)]; simp), List.length_append, missTo_none (l := l) (m := m) (by omega) (fun i h2 h3 => hn i h2 (by omega))]
      simp
      omega
    · obtain rfl : l = m + 1 := by omega
      simp
theorem missTo_mem {has : Int → Bool} {n : Int} : ∀ {m : Nat}, n ∈ missTo has m → has n = false
  | 0, h => by simp [missTo] at h
  | m + 1, h => by
    rw [missTo] at h
    split at h
    · exact missTo_mem h
    · rename_i hc
      rcases List.mem_append.1 h with h | h
      · exact missTo_mem h
      · rw [List.mem_singleton] at h
        rw [h]
        simpa using hc
theorem miss_count {rs : List Report} {v : Int} (hf : isFile rs = true) : ∀ {k : Nat}, k ≤ rs.length → ((missTo (hasTo rs v k) (lastNum rs v k).toNat).length : Int) + cntTo rs v k = lastNum rs v k
  | 0, _ => by simp [missTo, lastNum, cntTo]
  | k + 1, hk => by
    have ih := miss_count (v := v) hf (k := k) (by omega)
    rw [lastNum, cntTo]
    split
    · rename_i hv
      have h1 := lastNum_lt hf (k := k) (by omega) hv
      have h2 := lastNum_range (v := v) hf (k := k) (by omega)
      have hn := file_num hf (k := k) (by omega)
      rw [missTo_has (by omega) (by rw [hasTo_succ]; simp [isNo, hv])]
      rw [missTo_congr (q := hasTo rs v k) (fun i h3 h4 => by rw [hasTo_succ]; simp [isNo, show ¬ (nth rs k).number = i by omega])]
      rw [missTo_none (l := (lastNum rs v k).toNat) (by omega) (fun i h3 h4 => Bool.eq_false_iff.2 (fun h5 => by have := hasTo_le hf (by omega) h5; omega))]
      omega
    · rename_i hv
      rw [missTo_congr (q := hasTo rs v k) (fun i _ _ => by rw [hasTo_succ]; simp [isNo, hv])]
      exact ih
theorem hasTo_at {rs : List Report} {v : Int} {i : Nat} : ∀ {k : Nat}, i < k → (nth rs i).vessel = v → hasTo rs v k (nth rs i).number = true
  | 0, h, _ => by omega
  | k + 1, h, hv => by
    rw [hasTo_succ]
    rcases Nat.lt_or_ge i k with h1 | h1
    · rw [hasTo_at h1 hv]; rfl
    · obtain rfl : i = k := by omega
      simp [isNo, hv]
def hasB (l : List Int) (x : Int) : Bool := !allTo l.length (fun i => !decide (nth l i = x))
theorem hasB_no {l : List Int} {x : Int} (h : x ∉ l) : hasB l x = false := by
  unfold hasB
  rw [allTo_iff.2]
  · rfl
  · intro i hi
    have h2 : nth l i ≠ x := fun e => h (e ▸ nth_mem hi)
    rw [decide_eq_false h2]
    rfl
theorem rHas_spec {w : World} {A : Option Addr} {c : Nat} {l : List Int} {x : Int} (hs : Sl w 1 A l.length c (l.flatMap intC)) : Calls Try.prog 36 #[.slice A l.length c, .int .i64 x] w (RetB w (.bool (hasB l x))) := by
  have hmx := Sl.lenle hs
  refine calls_of_run (vs := [_, _]) (L := [(0, _), (1, _)]) (n := 18) (F := []) (H := []) Try.func36 rfl rfl rfl rfl (HOk.start _) ?_
  refine Run.seq ?_
  refine Run.quiet (by intro h; cases h) ?_
  refine QOps.st rfl rfl (Yv.assign rfl).yl ?_
  refine QOps.nil ?_
  refine Run.seq ?_
  refine Run.seq ?_
  refine Run.quiet (by intro h; cases h) ?_
  refine QOps.st rfl rfl (Yv.assign rfl).yl ?_
  refine QOps.nil ?_
  refine Run.block ?_
  refine Run.loop (S := Nat) (fun s => match s with | k => k ≤ l.length ∧ ∀ i, i < k → decide (nth l i = x) = false) (fun s => match s with | k => [(0, .slice A l.length c), (1, .int .i64 x), (5, .int .i64 (k : Int))]) (fun s => match s with | k => []) (fun s => match s with | k => l.length - k) 0 ?_ (SubE.cons rfl (SubE.cons rfl (SubE.cons rfl (SubE.nil _)))) (List.Sublist.refl _) ?_
  · exact ⟨by omega, fun i hi => by omega⟩
  · rintro k ⟨hk, hall⟩
    show Run _ _ _ _ _ [(0, .slice A l.length c), (1, .int .i64 x), (5, .int .i64 (k : Int))] [] _
    refine Run.seq ?_
    refine Run.seq ?_
    refine Run.quiet (by intro h; cases h) ?_
    refine QOps.st rfl rfl (Yv.move rfl).yl ?_
    refine QOps.st rfl rfl (Yv.move rfl).yl ?_
    refine QOps.st rfl rfl (Yv.lenS el39s rfl).yl ?_
    refine QOps.st rfl rfl (Yv.lss rfl rfl).yl ?_
    refine QOps.nil ?_
    refine Run.cond rfl (fun hc1 => ?_) (fun hc1 => ?_)
    · try replace hc1 := of_decide_eq_true hc1
      refine Run.skip ?_
      refine Run.seq ?_
      refine Run.block ?_
      refine Run.seq ?_
      refine Run.quiet (by intro h; cases h) ?_
      refine QOps.st rfl rfl (Yv.move rfl).yl ?_
      refine QOps.st rfl rfl (Yv.move rfl).yl ?_
      refine QOps.st rfl rfl (Yv.indexAddr k el39 rfl rfl rfl (Rd.arg hs) (by omega)).yl ?_
      refine QOps.st rfl rfl (Yv.loadE lay3 rfl intC_len (Rd.arg hs) (by first | omega | (simp; omega)) rfl).yl ?_
      refine QOps.st rfl rfl (Yv.move rfl).yl ?_
      refine QOps.st rfl rfl (Yv.eqI rfl rfl).yl ?_
      refine QOps.nil ?_
      refine Run.cond rfl (fun hc2 => ?_) (fun hc2 => ?_)
      · try replace hc2 := of_decide_eq_true hc2
        refine Run.seq ?_
        refine Run.quiet (by intro h; cases h) ?_
        refine QOps.st rfl rfl (Yv.assign rfl).yl ?_
        refine QOps.nil ?_
        refine Run.ret ?_
        refine retQ.of (.inr rfl) rfl (.tmp rfl .nil) (fun w' hw' => ?_)
        refine ⟨?_, hw'.bel.below⟩
        refine retB_eq ?_
        unfold hasB; rw [allTo_false (i := k) (by omega) (by rw [decide_eq_true hc2]; rfl)]; rfl
      · try replace hc2 := of_decide_eq_false hc2
        refine Run.skip ?_
        refine Run.quiet (by intro h; cases h) ?_
        refine QOps.st rfl rfl (Yv.move rfl).yl ?_
        refine QOps.st rfl rfl (Yv.succN rfl rfl (by omega)).yl ?_
        refine QOps.st rfl rfl (Yv.assign rfl).yl ?_
        refine QOps.nil ?_
        refine ⟨k + 1, ?_, ?_, (SubE.cons rfl (SubE.cons rfl (SubE.cons rfl (SubE.nil _)))), (List.Sublist.refl _)⟩
        · exact ⟨by omega, all_succ hall (decide_eq_false hc2)⟩
        · first | omega | (dsimp only; omega)
    · try replace hc1 := of_decide_eq_false hc1
      refine Run.exit ?_
      refine Run.seq ?_
      refine Run.quiet (by intro h; cases h) ?_
      refine QOps.st rfl rfl (Yv.assign rfl).yl ?_
      refine QOps.nil ?_
      refine Run.ret ?_
      refine retQ.of (.inr rfl) rfl (.tmp rfl .nil) (fun w' hw' => ?_)
      refine ⟨?_, hw'.bel.below⟩
      refine retB_eq ?_
      unfold hasB; rw [allTo_iff.2 (fun i hi => by rw [hall i (by omega)]; rfl)]; rfl
theorem missOf_shape {rs : List Report} {v : Int} (h : (missOf rs v).2 = true) : isFile rs = true ∧ missOf rs v = (missL rs v, true) ∧ (missL rs v).length ≤ 50 := by
  unfold missOf at h ⊢
  split at h
  · rename_i h1
    rw [if_pos h1]
    simp only [missOk, Bool.and_eq_true] at h1
    split at h
    · cases h
    · rename_i h2
      rw [if_neg h2]
      exact ⟨h1.1, rfl, by omega⟩
  · cases h
theorem miss_no {rs : List Report} {v : Int} {k : Nat} (hk : k < rs.length) (hv : (nth rs k).vessel = v) : hasB (missL rs v) (nth rs k).number = false := hasB_no (fun h => by
  have h1 := missTo_mem h
  rw [hasTo_at hk hv] at h1
  cases h1)
theorem miss_all {rs : List Report} {v : Int} (hf : isFile rs = true) : ((missL rs v).length : Int) + cntTo rs v rs.length = lastNum rs v rs.length := miss_count hf (Nat.le_refl _)
theorem last_num {rs : List Report} {v : Int} (hf : isFile rs = true) : lastNum rs v rs.length = if (lastOf rs v).2 = true then (lastOf rs v).1.number else 0 := by
  have hr := lastTo_range (rs := rs) (v := v) (k := rs.length)
  rcases Int.lt_or_le (lastTo rs v rs.length) 0 with h | h
  · have e : lastOf rs v = (default, false) := by
      unfold lastOf
      rw [if_pos (by rw [hf, decide_eq_true h]; rfl)]
    rw [e, lastNum_none h]
    simp
  · have e : lastOf rs v = (nth rs (lastTo rs v rs.length).toNat, true) := by
      unfold lastOf
      rw [if_neg (by rw [hf, decide_eq_false (by omega)]; simp)]
    rw [e, lastNum_last (j := (lastTo rs v rs.length).toNat) (by omega)]
    simp
/-! What forgetting keeps -/
theorem keptTo_sub {rs : List Report} {m : Int} : ∀ {k : Nat}, k ≤ rs.length → (keptTo rs m k).Sublist (rs.take k)
  | 0, _ => by simp [keptTo]
  | k + 1, h => by
    have ih := keptTo_sub (rs := rs) (m := m) (k := k) (by omega)
    have e : rs.take (k + 1) = rs.take k ++ [nth rs k] := by
      rw [List.take_add_one, nth_get (show k < rs.length by omega)]
      rfl
    rw [keptTo, e]
    split
    · exact ih.append (List.Sublist.refl _)
    · exact ih.trans (List.sublist_append_left _ _)
theorem file_iff {rs : List Report} : isFile rs = true ↔ rs.Pairwise (fun a b => beforeR a b = true) ∧ (∀ r ∈ rs, oneR r = true) ∧ rs.length ≤ 12 := by
  constructor
  · intro h
    refine ⟨List.pairwise_iff_getElem.2 (fun i j hi hj hij => ?_), fun r hr => ?_, (file_parts h).1⟩
    · have := file_sorted h hij hj
      simpa [nth, hi, hj] using this
    · obtain ⟨i, hi, rfl⟩ := List.getElem_of_mem hr
      have := bad_one ((file_parts h).2 i hi)
      simpa [nth, hi] using this
  · intro ⟨h1, h2, h3⟩
    rw [file_good]
    · exact decide_eq_true (by omega)
    · intro i hi
      have h4 : oneR (nth rs i) = true := by
        have := h2 rs[i] (List.getElem_mem hi)
        simpa [nth, hi] using this
      unfold badR
      rw [h4]
      rcases Nat.eq_zero_or_pos i with h0 | h0
      · subst h0; rfl
      · have h5 := List.pairwise_iff_getElem.1 h1 (i - 1) i (by omega) hi (by omega)
        have h6 : beforeR (nth rs (i - 1)) (nth rs i) = true := by
          simpa [nth, hi, show i - 1 < rs.length by omega] using h5
        rw [h6]
        simp
theorem file_sub {l rs : List Report} (h : isFile rs = true) (hs : l.Sublist rs) : isFile l = true := by
  rw [file_iff] at h ⊢
  exact ⟨h.1.sublist hs, fun r hr => h.2.1 r (hs.subset hr), Nat.le_trans hs.length_le h.2.2⟩
theorem mem_nth {rs : List Report} {r : Report} (h : r ∈ rs) : ∃ i, i < rs.length ∧ nth rs i = r := by
  obtain ⟨i, hi, rfl⟩ := List.getElem_of_mem h
  exact ⟨i, hi, by simp [nth, hi]⟩
theorem lastTo_after {rs : List Report} {v : Int} {i : Nat} : ∀ {k : Nat}, i < k → (nth rs i).vessel = v → (i : Int) ≤ lastTo rs v k
  | 0, h, _ => by omega
  | k + 1, h, hv => by
    rw [lastTo]
    split
    · omega
    · rename_i hn
      rcases Nat.lt_or_ge i k with h1 | h1
      · exact lastTo_after h1 hv
      · obtain rfl : i = k := by omega
        exact absurd hv hn
theorem lastTo_at {rs : List Report} {v : Int} {j : Nat} : ∀ {k : Nat}, lastTo rs v k = (j : Int) → (nth rs j).vessel = v
  | 0, h => by simp only [lastTo] at h; omega
  | k + 1, h => by
    rw [lastTo] at h
    split at h
    · rename_i hv
      have : k = j := by omega
      rw [← this]; exact hv
    · exact lastTo_at h
/-- The last report of a vessel, told without places. -/
theorem last_char {rs : List Report} {r : Report} (hf : isFile rs = true) (hm : r ∈ rs) (hmax : ∀ x ∈ rs, x.vessel = r.vessel → x.number ≤ r.number) : lastOf rs r.vessel = (r, true) := by
  obtain ⟨i, hi, rfl⟩ := mem_nth hm
  have h1 := lastTo_after (rs := rs) (v := (nth rs i).vessel) hi rfl
  have h2 := lastTo_range (rs := rs) (v := (nth rs i).vessel) (k := rs.length)
  obtain ⟨j, hj⟩ : ∃ j : Nat, lastTo rs (nth rs i).vessel rs.length = (j : Int) := ⟨(lastTo rs (nth rs i).vessel rs.length).toNat, by omega⟩
  have h3 := lastTo_at hj
  have hji : j = i := by
    rcases Nat.lt_or_ge i j with h4 | h4
    · have h5 := file_number hf h4 (by omega) h3.symm
      have h6 := hmax _ (nth_mem (show j < rs.length by omega)) h3
      omega
    · omega
  unfold lastOf
  rw [if_neg (by rw [hf, hj, decide_eq_false (by omega)]; simp), hj, Int.toNat_natCast, hji]
theorem last_max {rs : List Report} {v : Int} {j : Nat} (hf : isFile rs = true) (hj : lastTo rs v rs.length = (j : Int)) : ∀ x ∈ rs, x.vessel = v → x.number ≤ (nth rs j).number := fun x hx hv => by
  obtain ⟨i, hi, rfl⟩ := mem_nth hx
  have h1 := lastTo_after (rs := rs) (v := v) hi hv
  have h2 := lastTo_range (rs := rs) (v := v) (k := rs.length)
  rcases Nat.lt_or_ge i j with h4 | h4
  · have := file_number hf h4 (by omega) (by rw [hv, lastTo_at hj])
    omega
  · have : i = j := by omega
    rw [this]; exact Int.le_refl _
theorem keptTo_in {rs : List Report} {m : Int} {j : Nat} (hk : kept rs m j = true) : ∀ {k : Nat}, j < k → nth rs j ∈ keptTo rs m k
  | 0, h => by omega
  | k + 1, h => by
    rw [keptTo]
    rcases Nat.lt_or_ge j k with h1 | h1
    · have ih := keptTo_in hk h1
      split
      · exact List.mem_append_left _ ih
      · exact ih
    · obtain rfl : j = k := by omega
      rw [if_pos hk]
      simp
theorem keep_last {rs : List Report} {m : Int} {k : Nat} (hok : keepOk rs m = true) (hk : k < rs.length) : isFile (keptOf rs m) = true ∧ ∃ r : Report, lastOf rs (nth rs k).vessel = (r, true) ∧ lastOf (keptOf rs m) (nth rs k).vessel = (r, true) := by
  have hf : isFile rs = true := by
    simp only [keepOk, Bool.and_eq_true] at hok
    exact hok.1
  have hs : (keptOf rs m).Sublist rs := by
    unfold keptOf
    rw [if_pos hok]
    have := keptTo_sub (rs := rs) (m := m) (k := rs.length) (Nat.le_refl _)
    rwa [List.take_of_length_le (Nat.le_refl _)] at this
  have h1 := lastTo_after (rs := rs) (v := (nth rs k).vessel) hk rfl
  have h2 := lastTo_range (rs := rs) (v := (nth rs k).vessel) (k := rs.length)
  obtain ⟨j, hj⟩ : ∃ j : Nat, lastTo rs (nth rs k).vessel rs.length = (j : Int) := ⟨(lastTo rs (nth rs k).vessel rs.length).toNat, by omega⟩
  have h3 := lastTo_at hj
  have hmax := last_max hf hj
  have hkeep : kept rs m j = true := by
    unfold kept
    rw [h3, hj]
    simp
  have hin : nth rs j ∈ keptOf rs m := by
    unfold keptOf
    rw [if_pos hok]
    exact keptTo_in hkeep (by omega)
  refine ⟨file_sub hf hs, nth rs j, ?_, ?_⟩
  · rw [← h3]
    exact last_char hf (nth_mem (by omega)) (fun x hx hv => hmax x hx (by rw [hv, h3]))
  · rw [← h3]
    exact last_char (file_sub hf hs) hin (fun x hx hv => hmax x (hs.subset hx) (by rw [hv, h3]))
theorem keep_file {rs : List Report} {m : Int} (hok : keepOk rs m = true) : isFile (keptOf rs m) = true := by
  have hf : isFile rs = true := by
    simp only [keepOk, Bool.and_eq_true] at hok
    exact hok.1
  have hs : (keptOf rs m).Sublist rs := by
    unfold keptOf
    rw [if_pos hok]
    have := keptTo_sub (rs := rs) (m := m) (k := rs.length) (Nat.le_refl _)
    rwa [List.take_of_length_le (Nat.le_refl _)] at this
  exact file_sub hf hs
theorem eqC_self {r : Report} : eqC r.enc r.enc = true := by simp [eqC, Report.enc]
end Go.Proofs.Ytlpgcbkialcjcaa
