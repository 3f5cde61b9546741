/- Tugs, in plain Lean: the best assignment; when jobs end. Conditions: none. -/
import Derived.Test.YtkkmmbogeeopaaaMix3
namespace Go.Proofs.Ytkkmmbogeeopaaa
open Go.RowKit
set_option maxRecDepth 100000
abbrev EvB := List Int × Int
/-- The better one of two: the first, unless the second is there and less. -/
def comb (x y : EvB) : EvB := if 0 ≤ y.2 ∧ (x.2 < 0 ∨ y.2 < x.2) then y else x
theorem comb_assoc (x y z : EvB) : comb (comb x y) z = comb x (comb y z) := by
  unfold comb
  repeat' split
  all_goals first | rfl | omega
theorem comb_none {x : EvB} {s : List Int} : comb x (s, -1) = x := by
  unfold comb
  rw [if_neg (by simp)]
/-- The best of what the first tugs that are strong enough come to. -/
def foldTug (ts : List Tug) (p : Int) (f : Int → EvB) : Nat → EvB
  | 0 => ([], -1)
  | m + 1 => if p ≤ (nth ts m).power then comb (foldTug ts p f m) (f (nth ts m).id) else foldTug ts p f m
def bestGo (ts : List Tug) (js : List Job) : Nat → List Int → EvB
  | 0, ps => (ps, (dayTo ts js ps js.length).waits)
  | k + 1, ps => foldTug ts (nth js ps.length).power (fun id => bestGo ts js k (ps ++ [id])) ts.length
section
variable {ts : List Tug} {js : List Job} {who ps : List Int}
theorem foldTug_ok {p : Int} {f : Int → EvB} (hf : ∀ n, 0 ≤ (f n).2 ∨ f n = ([], -1)) : ∀ m, 0 ≤ (foldTug ts p f m).2 ∨ foldTug ts p f m = ([], -1)
  | 0 => .inr rfl
  | m + 1 => by
    rw [foldTug]
    split
    · unfold comb
      split
      · exact hf _
      · exact foldTug_ok hf m
    · exact foldTug_ok hf m
theorem bestGo_ok (hT : TugsIs ts) (hJ : JobsIs js) : ∀ {k : Nat} {ps : List Int}, 0 ≤ (bestGo ts js k ps).2 ∨ bestGo ts js k ps = ([], -1)
  | 0, ps => .inl (day_in (who := ps) hT hJ (Nat.le_refl _)).waits.1
  | _ + 1, _ => foldTug_ok (fun _ => bestGo_ok hT hJ) _
theorem comb_first (hT : TugsIs ts) (hJ : JobsIs js) {k : Nat} : comb ([], -1) (bestGo ts js k ps) = bestGo ts js k ps := by
  rcases bestGo_ok hT hJ (k := k) (ps := ps) with h | h
  · unfold comb
    rw [if_pos ⟨h, .inl (by simp)⟩]
  · rw [h]; exact comb_none
theorem foldTug_len {p : Int} {f : Int → EvB} {n : Nat} (hf : ∀ i, (f i).1.length ≤ n) : ∀ m, (foldTug ts p f m).1.length ≤ n
  | 0 => by simp [foldTug]
  | m + 1 => by
    rw [foldTug]
    split
    · unfold comb
      split
      · exact hf _
      · exact foldTug_len hf m
    · exact foldTug_len hf m
theorem bestGo_len : ∀ {k : Nat} {ps : List Int}, (bestGo ts js k ps).1.length ≤ ps.length + k
  | 0, ps => by simp [bestGo]
  | k + 1, ps => by
    rw [bestGo]
    refine foldTug_len (fun id => ?_) _
    have := bestGo_len (k := k) (ps := ps ++ [id])
    simp at this
    omega
theorem foldTug_le {p : Int} {f : Int → EvB} {i : Nat} (hp : p ≤ (nth ts i).power) (h : 0 ≤ (f (nth ts i).id).2) : ∀ {m : Nat}, i < m → 0 ≤ (foldTug ts p f m).2 ∧ (foldTug ts p f m).2 ≤ (f (nth ts i).id).2
  | m + 1, hi => by
    rw [foldTug]
    rcases Nat.lt_or_ge i m with h1 | h1
    · have ih := foldTug_le hp h h1
      split
      · unfold comb
        split <;> omega
      · exact ih
    · obtain rfl : i = m := by omega
      rw [if_pos hp]
      unfold comb
      split <;> omega
theorem foldTug_is {p : Int} {f : Int → EvB} : ∀ {m : Nat}, 0 ≤ (foldTug ts p f m).2 → ∃ i, i < m ∧ p ≤ (nth ts i).power ∧ foldTug ts p f m = f (nth ts i).id
  | 0, h => by simp [foldTug] at h
  | m + 1, h => by
    rw [foldTug] at h ⊢
    by_cases hp : p ≤ (nth ts m).power
    · rw [if_pos hp] at h ⊢
      by_cases hc : 0 ≤ (f (nth ts m).id).2 ∧ ((foldTug ts p f m).2 < 0 ∨ (f (nth ts m).id).2 < (foldTug ts p f m).2)
      · unfold comb at h ⊢
        rw [if_pos hc]
        exact ⟨m, by omega, hp, rfl⟩
      · unfold comb at h ⊢
        rw [if_neg hc] at h ⊢
        obtain ⟨i, h1, h2, h3⟩ := foldTug_is h
        exact ⟨i, by omega, h2, h3⟩
    · rw [if_neg hp] at h ⊢
      obtain ⟨i, h1, h2, h3⟩ := foldTug_is h
      exact ⟨i, by omega, h2, h3⟩
theorem nth_apl {a b : List Int} {k : Nat} (h : k < a.length) : nth (a ++ b) k = nth a k := by rw [nth, nth, List.getD_eq_getElem?_getD, List.getD_eq_getElem?_getD, List.getElem?_append_left h]
theorem nth_apr {a b : List Int} {k : Nat} : nth (a ++ b) (a.length + k) = nth b k := by
  rw [nth, nth, List.getD_eq_getElem?_getD, List.getD_eq_getElem?_getD, List.getElem?_append_right (by omega)]
  congr 2
  omega
theorem bestGo_best (hT : TugsIs ts) (hJ : JobsIs js) : ∀ {k : Nat} {ps t : List Int}, t.length = k → ps.length + k = js.length → (∀ i, i < k → takes ts (nth js (ps.length + i)) (nth t i) = true) → 0 ≤ (bestGo ts js k ps).2 ∧ (bestGo ts js k ps).2 ≤ (dayTo ts js (ps ++ t) js.length).waits
  | 0, ps, t, ht, _, _ => by
    obtain rfl : t = [] := List.length_eq_zero_iff.1 ht
    rw [List.append_nil]
    exact ⟨(day_in (who := ps) hT hJ (Nat.le_refl _)).waits.1, Int.le_refl _⟩
  | k + 1, ps, [], ht, _, _ => by simp at ht
  | k + 1, ps, id :: t, ht, hl, h => by
    obtain ⟨i, h1, h2, h3, h4⟩ := takes_at (h 0 (by omega))
    have h3' : (nth ts i).id = id := h3
    rw [Nat.add_zero] at h4
    have ih := bestGo_best hT hJ (k := k) (ps := ps ++ [id]) (t := t) (by simpa using ht) (by simp; omega) (fun m hm => by
      have := h (m + 1) (by omega)
      rw [show (ps ++ [id]).length + m = ps.length + (m + 1) by simp; omega]
      exact this)
    rw [bestGo]
    have h5 := foldTug_le (ts := ts) (f := fun id => bestGo ts js k (ps ++ [id])) (i := i) (m := ts.length) h4 (by simp only [h3']; exact ih.1) h2
    simp only [h3'] at h5
    rw [show ps ++ id :: t = ps ++ [id] ++ t by simp]
    exact ⟨h5.1, by omega⟩
theorem bestGo_is (hT : TugsIs ts) : ∀ {k : Nat} {ps : List Int}, ps.length + k = js.length → 0 ≤ (bestGo ts js k ps).2 → ∃ t, t.length = k ∧ (bestGo ts js k ps).1 = ps ++ t ∧ (∀ i, i < k → takes ts (nth js (ps.length + i)) (nth t i) = true) ∧ (bestGo ts js k ps).2 = (dayTo ts js (ps ++ t) js.length).waits
  | 0, ps, _, _ => ⟨[], rfl, by simp [bestGo], fun i hi => by omega, by simp [bestGo]⟩
  | k + 1, ps, hl, h => by
    rw [bestGo] at h ⊢
    obtain ⟨i, h1, h2, h3⟩ := foldTug_is h
    rw [h3] at h ⊢
    obtain ⟨t, h4, h5, h6, h7⟩ := bestGo_is hT (k := k) (ps := ps ++ [(nth ts i).id]) (by simp; omega) h
    refine ⟨(nth ts i).id :: t, by simp [h4], by rw [h5]; simp, fun m hm => ?_, by rw [h7]; simp⟩
    cases m with
    | zero =>
      show takes ts (nth js ps.length) (nth ts i).id = true
      unfold takes
      rw [findTug_at hT h1]
      exact decide_eq_true h2
    | succ m =>
      have := h6 m (by omega)
      rw [show (ps ++ [(nth ts i).id]).length + m = ps.length + (m + 1) by simp; omega] at this
      exact this
def bestOf (ts : List Tug) (js : List Job) : List Int × Int × Bool := if (tugsOk ts && jobsOk js) = true then (if (bestGo ts js js.length []).2 < 0 then ([], 0, false) else ((bestGo ts js js.length []).1, (bestGo ts js js.length []).2, true)) else ([], 0, false)
theorem bestOf_len : (bestOf ts js).1.length ≤ js.length := by
  have := bestGo_len (ts := ts) (js := js) (k := js.length) (ps := [])
  unfold bestOf
  split
  · split
    · simp
    · simpa using this
  · simp
def waitsOf (ts : List Tug) (js : List Job) (who : List Int) : Int × Bool := if planOk ts js who = true then ((dayTo ts js who js.length).waits, true) else (0, false)
def endsOf (ts : List Tug) (js : List Job) (who : List Int) : List Int × Bool := if planOk ts js who = true then ((dayTo ts js who js.length).ends, true) else ([], false)
/-- No assignment waits less than the best one. -/
theorem best_least (h : planOk ts js who = true) : (bestOf ts js).2.2 = true ∧ (bestOf ts js).2.1 ≤ (dayTo ts js who js.length).waits := by
  have hp := plan_is h
  have hb := bestGo_best hp.tugs hp.jobs (k := js.length) (ps := []) (t := who) hp.len (by simp) (fun i hi => by
    have := hp.each i (by rw [hp.len]; exact hi)
    simpa using this)
  have hok : (tugsOk ts && jobsOk js) = true := by
    simp only [planOk, Bool.and_eq_true] at h
    rw [h.1.1.1, h.1.1.2]
    rfl
  unfold bestOf
  rw [if_pos hok, if_neg (by omega)]
  exact ⟨rfl, by simpa using hb.2⟩
theorem best_plan (h : (bestOf ts js).2.2 = true) : planOk ts js (bestOf ts js).1 = true ∧ (dayTo ts js (bestOf ts js).1 js.length).waits = (bestOf ts js).2.1 := by
  unfold bestOf at h ⊢
  split at h
  · rename_i hok
    split at h
    · cases h
    · rename_i hlt
      have hok' := hok
      simp only [Bool.and_eq_true] at hok'
      obtain ⟨t, h1, h2, h3, h4⟩ := bestGo_is (js := js) (tugs_is hok'.1) (k := js.length) (ps := []) (by simp) (by omega)
      rw [if_pos hok, if_neg hlt]
      simp only
      rw [h2, h4]
      simp only [List.nil_append]
      refine ⟨?_, by trivial⟩
      unfold planOk
      rw [hok'.1, hok'.2, decide_eq_true (by omega), allTo_iff.2 (fun i hi => by have := h3 i (by omega); simpa using this)]
      rfl
  · cases h
/-! When jobs end -/
theorem ends_at : ∀ {n i : Nat}, (∀ k, (dayTo ts js who k).ends.length = k) → i < n → nth (dayTo ts js who n).ends i = beginAt js who (dayTo ts js who i) i + towAt js i
  | n + 1, i, hl, h => by
    rw [dayTo]
    show nth ((dayTo ts js who n).ends ++ [beginAt js who (dayTo ts js who n) n + towAt js n]) i = _
    rcases Nat.lt_or_ge i n with h1 | h1
    · rw [nth_apl (by rw [hl]; exact h1), ends_at hl h1]
    · obtain rfl : i = n := by omega
      have := nth_apr (a := (dayTo ts js who i).ends) (b := [beginAt js who (dayTo ts js who i) i + towAt js i]) (k := 0)
      rw [hl i, Nat.add_zero] at this
      rw [this]
      rfl
theorem starts_at : ∀ {n i : Nat}, (∀ k, (dayTo ts js who k).starts.length = k) → i < n → nth (dayTo ts js who n).starts i = beginAt js who (dayTo ts js who i) i
  | n + 1, i, hl, h => by
    rw [dayTo]
    show nth ((dayTo ts js who n).starts ++ [beginAt js who (dayTo ts js who n) n]) i = _
    rcases Nat.lt_or_ge i n with h1 | h1
    · rw [nth_apl (by rw [hl]; exact h1), starts_at hl h1]
    · obtain rfl : i = n := by omega
      have := nth_apr (a := (dayTo ts js who i).starts) (b := [beginAt js who (dayTo ts js who i) i]) (k := 0)
      rw [hl i, Nat.add_zero] at this
      rw [this]
      rfl
theorem ends_len : ∀ k, (dayTo ts js who k).ends.length = k
  | 0 => rfl
  | k + 1 => by
    rw [dayTo]
    show ((dayTo ts js who k).ends ++ [_]).length = k + 1
    simp [ends_len k]
theorem starts_len : ∀ k, (dayTo ts js who k).starts.length = k
  | 0 => rfl
  | k + 1 => by
    rw [dayTo]
    show ((dayTo ts js who k).starts ++ [_]).length = k + 1
    simp [starts_len k]
theorem waits_next {i : Nat} : (dayTo ts js who (i + 1)).waits = (dayTo ts js who i).waits + (beginAt js who (dayTo ts js who i) i - (nth js i).ready) := rfl
/-- The greatest of the first numbers, 0 at least. -/
def maxTo (l : List Int) : Nat → Int
  | 0 => 0
  | k + 1 => max (maxTo l k) (nth l k)
theorem maxTo_ge {l : List Int} {i : Nat} : ∀ {n : Nat}, i < n → nth l i ≤ maxTo l n
  | n + 1, h => by
    rw [maxTo]
    rcases Nat.lt_or_ge i n with h1 | h1
    · have := maxTo_ge (l := l) h1
      omega
    · obtain rfl : i = n := by omega
      omega
theorem maxTo_nonneg {l : List Int} : ∀ {n : Nat}, 0 ≤ maxTo l n
  | 0 => Int.le_refl _
  | n + 1 => by
    have := maxTo_nonneg (l := l) (n := n)
    rw [maxTo]
    omega
def lastOf (ts : List Tug) (js : List Job) (who : List Int) : Int × Bool := if planOk ts js who = true then (maxTo (dayTo ts js who js.length).ends js.length, true) else (0, false)
end
end Go.Proofs.Ytkkmmbogeeopaaa
