/- Fixes: what the law of fixes says of the reckoned things. Conditions: none. -/
import Derived.Test.YtliealfihglkmaaPos9
namespace Go.Proofs.Ytliealfihglkmaa
open Go.RowKit
set_option maxRecDepth 100000
theorem firstTo_spec {n j : Nat} {p : Nat → Bool} (h : firstTo n p = some j) : j < n ∧ p j = true ∧ ∀ i, i < j → p i = false := by
  by_cases hall : ∀ i, i < n → (!p i) = true
  · rw [firstTo_none (fun i hi => by simpa using hall i hi)] at h
    cases h
  · obtain ⟨k, hk, hp, hlt⟩ := exists_first hall
    rw [firstTo_some hk (by simpa using hp) (fun i hi => by simpa using hlt i hi)] at h
    cases h
    exact ⟨hk, by simpa using hp, fun i hi => by simpa using hlt i hi⟩
theorem fix_step {fs : List Fix} (h : areFixes fs = true) {k : Nat} (hk : k + 1 < fs.length) : (nth fs k).minute < (nth fs (k + 1)).minute := by
  have h1 := (areFixes_ok h).2.2 (k + 1) hk
  simp only [badFix, Bool.or_eq_false_iff, Bool.and_eq_false_iff, decide_eq_false_iff_not, Nat.add_sub_cancel] at h1
  rcases h1.2 with h2 | h2 <;> omega
theorem fix_lt {fs : List Fix} (h : areFixes fs = true) {i : Nat} : ∀ {j : Nat}, i < j → j < fs.length → (nth fs i).minute < (nth fs j).minute
  | 0, hi, _ => by omega
  | j + 1, hi, hj => by
    have h1 := fix_step h (k := j) hj
    rcases Nat.lt_or_ge i j with h2 | h2
    · have := fix_lt h h2 (by omega)
      omega
    · have : i = j := by omega
      rw [this]; exact h1
theorem areFixes_of {fs : List Fix} (h1 : 1 ≤ fs.length ∧ fs.length ≤ 8) (h2 : AllOk fs) (h3 : ∀ k, k + 1 < fs.length → (nth fs k).minute < (nth fs (k + 1)).minute) : areFixes fs = true := by
  unfold areFixes
  rw [allTo_iff.2, inB_iff.2 (by omega)]
  · rfl
  · intro k hk
    have h4 := h2 k hk
    unfold Fix.ok at h4
    have h5 : badFix fs k = false := by
      unfold badFix
      rw [inB_iff.2 (by omega), inB_iff.2 (by omega), inB_iff.2 (by omega)]
      rcases Nat.eq_zero_or_pos k with h0 | h0
      · subst h0; simp
      · have := h3 (k - 1) (by omega)
        rw [show k - 1 + 1 = k by omega] at this
        rw [decide_eq_false (p := (nth fs k).minute ≤ (nth fs (k - 1)).minute) (by omega)]
        simp
    rw [h5]; rfl
theorem pair_ok {a b : Fix} {p : Int} (ha : a.ok) (hb : b.ok) (hm : a.minute < b.minute) (hp : 0 ≤ p ∧ p ≤ 500) : areConsistentOf [a, b] p = (pairOk a b p, true) := by
  have hf : areFixes [a, b] = true := areFixes_of (by simp) (fun k hk => match k, hk with
    | 0, _ => ha
    | 1, _ => hb) (fun k hk => match k, hk with
    | 0, _ => hm)
  unfold areConsistentOf
  rw [if_pos (by rw [hf, inB_iff.2 hp]; rfl)]
  congr 1
  exact Bool.eq_iff_iff.2 ⟨fun h => consistent_iff.1 h 0 1 (by omega) (by simp), fun h => consistent_iff.2 (fun i j hij hj => by
    have hj' : j < 2 := hj
    obtain rfl : i = 0 := by omega
    obtain rfl : j = 1 := by omega
    exact h)⟩
/-! Spans at the minutes of the fixes, and every two of them -/
def pairsFrom (fs : List Fix) (p : Int) (i : Nat) (b : Bool) : Nat → Bool
  | 0 => b
  | k + 1 => pairsFrom fs p i b k && pairOk (nth fs k) (nth fs i) p
def allUp (fs : List Fix) (p : Int) : Nat → Bool
  | 0 => true
  | i + 1 => pairsFrom fs p i (allUp fs p i && (spanOf fs p (nth fs i).minute).2) i
theorem pairsFrom_iff {fs : List Fix} {p : Int} {i : Nat} {b : Bool} : ∀ {k : Nat}, pairsFrom fs p i b k = true ↔ b = true ∧ ∀ j, j < k → pairOk (nth fs j) (nth fs i) p = true
  | 0 => by simp [pairsFrom]
  | k + 1 => by
    rw [pairsFrom, Bool.and_eq_true, pairsFrom_iff]
    constructor
    · intro ⟨⟨h1, h2⟩, h3⟩
      exact ⟨h1, all_succ h2 h3⟩
    · intro ⟨h1, h2⟩
      exact ⟨⟨h1, fun j hj => h2 j (by omega)⟩, h2 k (by omega)⟩
theorem allUp_iff {fs : List Fix} {p : Int} : ∀ {n : Nat}, allUp fs p n = true ↔ ∀ i, i < n → (spanOf fs p (nth fs i).minute).2 = true ∧ ∀ j, j < i → pairOk (nth fs j) (nth fs i) p = true
  | 0 => by simp [allUp]
  | n + 1 => by
    rw [allUp, pairsFrom_iff, Bool.and_eq_true, allUp_iff]
    constructor
    · intro ⟨⟨h1, h2⟩, h3⟩
      exact all_succ (p := fun i => (spanOf fs p (nth fs i).minute).2 = true ∧ ∀ j, j < i → pairOk (nth fs j) (nth fs i) p = true) h1 ⟨h2, h3⟩
    · intro h
      exact ⟨⟨fun i hi => h i (by omega), (h n (by omega)).1⟩, (h n (by omega)).2⟩
theorem lowTo_le {fs : List Fix} {p m X : Int} (h0 : -100000000 ≤ X) : ∀ {n : Nat}, (∀ j, j < n → (nth fs j).place - slack (nth fs j) p m ≤ X) → lowTo fs p m n ≤ X
  | 0, _ => h0
  | n + 1, h => by
    have h1 := lowTo_le h0 (n := n) (fun j hj => h j (by omega))
    have h2 := h n (by omega)
    rw [lowTo]; omega
theorem le_highTo {fs : List Fix} {p m X : Int} (h0 : X ≤ 100000000) : ∀ {n : Nat}, (∀ j, j < n → X ≤ (nth fs j).place + slack (nth fs j) p m) → X ≤ highTo fs p m n
  | 0, _ => h0
  | n + 1, h => by
    have h1 := le_highTo h0 (n := n) (fun j hj => h j (by omega))
    have h2 := h n (by omega)
    rw [highTo]; omega
theorem slack_ge {f : Fix} {p m : Int} (hf : f.ok) (hp : 0 ≤ p) : 0 ≤ slack f p m := by
  have h1 : 0 ≤ p * max (m - f.minute) (f.minute - m) := Int.mul_nonneg hp (by omega)
  unfold Fix.ok at hf
  unfold slack
  omega
theorem two_fit {a b : Fix} {p m : Int} (hp : 0 ≤ p) (h : pairOk a b p = true) : a.place - slack a p m ≤ b.place + slack b p m ∧ b.place - slack b p m ≤ a.place + slack a p m := by
  have h1 := of_decide_eq_true h
  have h2 : p * max (a.minute - b.minute) (b.minute - a.minute) ≤ p * (max (m - a.minute) (a.minute - m) + max (m - b.minute) (b.minute - m)) := Int.mul_le_mul_of_nonneg_left (by omega) hp
  rw [Int.mul_add] at h2
  unfold slack
  omega
theorem span_at {fs : List Fix} {p m : Int} (hok : AllOk fs) (hp : 0 ≤ p) (h : consistent fs p = true) : lowTo fs p m fs.length ≤ highTo fs p m fs.length := by
  refine le_highTo (lowTo_le (by omega) (fun j hj => ?_)) (fun i hi => lowTo_le ?_ (fun j hj => ?_))
  · have h1 := slack_ge (m := m) (hok j hj) hp
    have h2 := hok j hj
    unfold Fix.ok at h2
    omega
  · have h1 := slack_ge (m := m) (hok i hi) hp
    have h2 := hok i hi
    unfold Fix.ok at h2
    omega
  · rcases Nat.lt_trichotomy i j with h3 | h3 | h3
    · exact (two_fit hp (consistent_iff.1 h i j h3 hj)).2
    · subst h3
      have h1 := slack_ge (m := m) (hok i hi) hp
      omega
    · exact (two_fit hp (consistent_iff.1 h j i h3 hi)).1
structure Asked (fs : List Fix) (p : Int) : Prop where
  is_ : areConsistentOf fs p = (consistent fs p, true)
  ok : AllOk fs
  bnd : 0 ≤ p ∧ p ≤ 500
  len : 1 ≤ fs.length ∧ fs.length ≤ 8
  two : ∀ i k, k < i → i < fs.length → areConsistentOf [nth fs k, nth fs i] p = (pairOk (nth fs k) (nth fs i) p, true)
  yes : consistent fs p = true → ∀ i k, k < i → i < fs.length → pairOk (nth fs k) (nth fs i) p = true
  all : allUp fs p fs.length = consistent fs p
theorem asked {fs : List Fix} {p : Int} (h : (areConsistentOf fs p).2 = true) : Asked fs p := by
  unfold areConsistentOf at h
  split at h
  · rename_i h1
    have h2 := h1
    rw [Bool.and_eq_true, inB_iff] at h2
    have hl := areFixes_ok h2.1
    have hok := areFixes_all h2.1
    refine ⟨by unfold areConsistentOf; rw [if_pos h1], hok, h2.2, by omega, fun i k hk hi => pair_ok (hok k (by omega)) (hok i hi) (fix_lt h2.1 hk hi) h2.2, fun h3 i k hk hi => consistent_iff.1 h3 k i hk hi, ?_⟩
    refine Bool.eq_iff_iff.2 ⟨fun h3 => consistent_iff.2 (fun i j hij hj => (allUp_iff.1 h3 j hj).2 i hij), fun h3 => allUp_iff.2 (fun i hi => ⟨?_, fun j hj => consistent_iff.1 h3 j i hj hi⟩)⟩
    have h4 := hok i hi
    unfold Fix.ok at h4
    unfold spanOf
    rw [if_pos (by rw [h2.1, inB_iff.2 h2.2, inB_iff.2 (by omega)]; rfl), if_pos (span_at hok h2.2.1 h3)]
  · cases h
structure Slow (fs : List Fix) : Prop where
  bnd : 0 ≤ (slowest fs).1 ∧ (slowest fs).1 ≤ 500
  is_ : areConsistentOf fs (slowest fs).1 = (true, true)
  less : (areConsistentOf fs ((slowest fs).1 - 1)).2 = true → (areConsistentOf fs ((slowest fs).1 - 1)).1 = false
theorem slow {fs : List Fix} (h : (slowest fs).2 = true) : Slow fs := by
  unfold slowest at h
  split at h
  · rename_i h1
    split at h
    · rename_i j hj
      have e : (slowest fs).1 = (j : Int) := by
        unfold slowest
        rw [if_pos h1, hj]
      obtain ⟨hj1, hj2, hj3⟩ := firstTo_spec hj
      refine ⟨by omega, ?_, fun h2 => ?_⟩
      · rw [e]
        unfold areConsistentOf
        rw [if_pos (by rw [h1, inB_iff.2 (by omega)]; rfl), hj2]
      · rw [e] at h2 ⊢
        rcases Nat.eq_zero_or_pos j with h0 | h0
        · subst h0
          unfold areConsistentOf at h2
          rw [if_neg (by simp [inB])] at h2
          cases h2
        · have h4 := hj3 (j - 1) (by omega)
          unfold areConsistentOf
          rw [if_pos (by rw [h1, inB_iff.2 (by omega)]; rfl)]
          dsimp only at h4 ⊢
          rw [show ((j : Int) - 1) = ((j - 1 : Nat) : Int) by omega]
          exact h4
    · cases h
  · cases h
theorem without_sub {fs : List Fix} {i : Nat} : (without fs i) = fs.eraseIdx i := by
  unfold without
  rw [List.eraseIdx_eq_take_drop_succ]
structure Odd (fs : List Fix) (p : Int) (k : Nat) : Prop where
  is_ : oddOf fs p = ((k : Int), true)
  lt : k < fs.length
  len : fs.length ≤ 8
  good : areConsistentOf (without fs k) p = (true, true)
  bad : areConsistentOf fs p = (false, true)
theorem odd {fs : List Fix} {p : Int} (h : (oddOf fs p).2 = true) : ∃ k, Odd fs p k := by
  unfold oddOf at h
  split at h
  · rename_i h1
    split at h
    · rename_i k hk
      obtain ⟨hk1, hk2, _⟩ := firstTo_spec hk
      have hq := oddAsked_parts h1
      have hl := areFixes_ok hq.1
      have hok := areFixes_all hq.1
      have hn : consistent fs p = false := by
        unfold oddAsked at h1
        revert h1
        cases consistent fs p <;> simp
      have h2 : 2 ≤ fs.length := by
        rcases Nat.lt_or_ge fs.length 2 with h3 | h3
        · rw [consistent_iff.2 (fun i j hij hj => by omega)] at hn
          cases hn
        · exact h3
      have hw : areFixes (without fs k) = true := areFixes_of (by rw [without_len hk1]; omega) (without_ok hok) (fun j hj => by
        rw [without_len hk1] at hj
        have e : ∀ q, nth (without fs k) q = nth fs (if q < k then q else q + 1) := fun q => by
          unfold nth
          rw [without_sub, List.getD_eq_getElem?_getD, List.getElem?_eraseIdx, List.getD_eq_getElem?_getD]
          split <;> rfl
        rw [e, e]
        exact fix_lt hq.1 (by split <;> split <;> omega) (by split <;> omega))
      refine ⟨k, by unfold oddOf; rw [if_pos h1, hk], hk1, by omega, ?_, ?_⟩
      · unfold areConsistentOf
        rw [if_pos (by rw [hw, inB_iff.2 hq.2]; rfl), hk2]
      · unfold areConsistentOf
        rw [if_pos (by rw [hq.1, inB_iff.2 hq.2]; rfl), hn]
    · cases h
  · cases h
theorem add_last {fs : List Fix} {f : Fix} {p : Int} (h : addOk fs f p = true) : nth ((addM fs f p).drop (addK2 fs f p)) ((addM fs f p).length - addK2 fs f p - 1) = f ∧ 1 ≤ (addM fs f p).length - addK2 fs f p := by
  rw [← add_len, add_eq]
  have e : addR fs f p = fs.drop (addK fs) ++ [f] := by unfold addR addL; rw [if_pos h]
  rw [e]
  simp [nth]
end Go.Proofs.Ytliealfihglkmaa
