/- Convoys: what the law of barges says of the reckoned things. Conditions: none. -/
import Derived.Test.YtfpglglolhlegaaConA
namespace Go.Proofs.Ytfpglglolhlegaa
open Go.RowKit
set_option maxRecDepth 100000
theorem sumTo_take {l : List Int} : ∀ {k : Nat}, k ≤ l.length → sumTo l k = (l.take k).sum
  | 0, _ => by simp [sumTo]
  | k + 1, h => by
    rw [sumTo, sumTo_take (by omega), List.take_add_one, nth_get (show k < l.length by omega), List.sum_append]
    simp
theorem sumTo_sum {l : List Int} : sumTo l l.length = l.sum := by
  rw [sumTo_take (Nat.le_refl _), List.take_length]
theorem all_mem {l : List Int} (h : ∀ k, k < l.length → 1 ≤ nth l k ∧ nth l k ≤ 6) : ∀ x ∈ l, 1 ≤ x ∧ x ≤ 6 := fun x hx => by
  obtain ⟨i, hi, rfl⟩ := List.getElem_of_mem hx
  have := h i hi
  simpa [nth, hi] using this
theorem mem_all {l : List Int} (h : ∀ x ∈ l, 1 ≤ x ∧ x ≤ 6) : ∀ k, k < l.length → 1 ≤ nth l k ∧ nth l k ≤ 6 := fun _ hk => h _ (nth_mem hk)
theorem valid_of {p : Int} {l : List Int} (h1 : 1 ≤ p ∧ p ≤ 3) (h2 : 1 ≤ l.length ∧ l.length ≤ 8) (h3 : ∀ x ∈ l, 1 ≤ x ∧ x ≤ 6) : validConvoy p l = true := by
  unfold validConvoy
  rw [inB_iff.2 h1, inB_iff.2 (by omega), allTo_iff.2 (fun i hi => inB_iff.2 (mem_all h3 i hi))]
  rfl
structure Left (p : Int) (l : List Int) (f n : Int) : Prop where
  len1 : convoyLength p l = (p + l.sum, true)
  len2 : convoyLength (leaveP p l f n) (leaveRest p l f n) = (p + (leaveRest p l f n).sum, true)
  sums : l.sum - (leaveRest p l f n).sum = sumTo (leaveGone p l f n) (leaveGone p l f n).length
  cnt : ((leaveGone p l f n).length : Int) = n
  ok : validConvoy (leaveP p l f n) (leaveRest p l f n) = true
  each : ∀ k, k < (leaveGone p l f n).length → 1 ≤ nth (leaveGone p l f n) k ∧ nth (leaveGone p l f n) k ≤ 6
  bnd : 1 ≤ p ∧ p ≤ 3 ∧ 0 ≤ l.sum ∧ l.sum ≤ 100 ∧ 0 ≤ (leaveRest p l f n).sum ∧ (leaveRest p l f n).sum ≤ 100 ∧ (leaveGone p l f n).length ≤ 8
theorem valid_len {p : Int} {l : List Int} (h : validConvoy p l = true) : convoyLength p l = (p + l.sum, true) ∧ 0 ≤ l.sum ∧ l.sum ≤ 100 := by
  obtain ⟨h1, h2, h3, h4, h5⟩ := validConvoy_ok h
  have h6 := sumTo_bnd h5 (Nat.le_refl _)
  rw [sumTo_sum] at h6
  refine ⟨?_, by omega, by omega⟩
  unfold convoyLength
  rw [if_pos h, sumTo_sum]
theorem left {p f n : Int} {l : List Int} (h : leaveOk p l f n = true) : Left p l f n := by
  obtain ⟨hv, hf, hn, hfn, hne⟩ := leaveOk_iff.1 h
  obtain ⟨h1, h2, h3, h4, h5⟩ := validConvoy_ok hv
  obtain ⟨a, rfl⟩ : ∃ a : Nat, f = (a : Int) := ⟨f.toNat, by omega⟩
  obtain ⟨b, rfl⟩ : ∃ b : Nat, n = (b : Int) := ⟨n.toNat, by omega⟩
  have hab : a + b ≤ l.length := by omega
  obtain ⟨e1, e2, e3⟩ := leave_yes h
  have hgl := goneLen hab
  have hrl := restLen hab
  have hm := all_mem h5
  have hs1 : l.take a ++ l.drop a = l := List.take_append_drop a l
  have hs2 : (l.drop a).take b ++ (l.drop a).drop b = l.drop a := List.take_append_drop b _
  rw [List.drop_drop] at hs2
  have hvr : validConvoy p (l.take a ++ l.drop (a + b)) = true := valid_of ⟨h1, h2⟩ (by rw [hrl]; omega) (fun x hx => hm x (by
    rcases List.mem_append.1 hx with hx | hx
    · exact List.mem_of_mem_take hx
    · exact List.mem_of_mem_drop hx))
  have hg : ∀ x ∈ (l.drop a).take (a + b - a), 1 ≤ x ∧ x ≤ 6 := fun x hx => hm x (List.mem_of_mem_drop (List.mem_of_mem_take hx))
  have hl := valid_len hv
  have hr := valid_len hvr
  have hsum : l.sum = (l.take a).sum + (((l.drop a).take b).sum + (l.drop (a + b)).sum) := by
    conv => lhs; rw [← hs1, List.sum_append, ← hs2, List.sum_append]
  refine ⟨hl.1, ?_, ?_, ?_, ?_, ?_, ?_⟩
  · rw [e1, e2]; exact hr.1
  · rw [e2, e3, sumTo_sum, show a + b - a = b by omega, List.sum_append]; omega
  · rw [e3, hgl]; omega
  · rw [e1, e2]; exact hvr
  · rw [e3]; exact mem_all hg
  · rw [e2, e3, hgl]; omega
structure Joined (p : Int) (l : List Int) (p2 : Int) (l2 : List Int) : Prop where
  ok : leaveOk (joinP p l p2 l2) (joinL p l p2 l2) 0 (l.length : Int) = true
  rest : leaveRest (joinP p l p2 l2) (joinL p l p2 l2) 0 (l.length : Int) = l2
  gone : leaveGone (joinP p l p2 l2) (joinL p l p2 l2) 0 (l.length : Int) = l
theorem joined {p p2 : Int} {l l2 : List Int} (h : (validConvoy p l && validConvoy p2 l2 && validConvoy (max p p2) (l ++ l2)) = true) : Joined p l p2 l2 := by
  have hy := h
  simp only [Bool.and_eq_true] at hy
  obtain ⟨⟨h1, h2⟩, h3⟩ := hy
  have a1 := validConvoy_ok h1
  have a2 := validConvoy_ok h2
  have e1 : joinP p l p2 l2 = max p p2 := by unfold joinP; rw [if_pos h]
  have e2 : joinL p l p2 l2 = l ++ l2 := by unfold joinL; rw [if_pos h]
  have hok : leaveOk (max p p2) (l ++ l2) ((0 : Nat) : Int) (l.length : Int) = true := by
    rw [leaveOk_iff]
    refine ⟨h3, by omega, by omega, ?_, ?_⟩
    · simp only [List.length_append]; omega
    · simp only [List.length_append]; omega
  obtain ⟨_, e4, e5⟩ := leave_yes hok
  exact ⟨by rw [e1, e2]; exact hok, by rw [e1, e2]; exact e4.trans (by simp), by rw [e1, e2]; exact e5.trans (by simp)⟩
theorem firstTo_spec {n j : Nat} {p : Nat → Bool} (h : firstTo n p = some j) : j < n ∧ p j = true ∧ ∀ i, i < j → p i = false := by
  by_cases hall : ∀ i, i < n → (!p i) = true
  · rw [firstTo_none (fun i hi => by simpa using hall i hi)] at h
    cases h
  · obtain ⟨k, hk, hp, hlt⟩ := exists_first hall
    rw [firstTo_some hk (by simpa using hp) (fun i hi => by simpa using hlt i hi)] at h
    cases h
    exact ⟨hk, by simpa using hp, fun i hi => by simpa using hlt i hi⟩
structure Short (p : Int) (l : List Int) (parts : Int) : Prop where
  bnd : 1 ≤ (shortest p l parts).1 ∧ (shortest p l parts).1 ≤ 20
  one : (greedyOf p l (shortest p l parts).1).2 = true
  le : ((greedyOf p l (shortest p l parts).1).1.length : Int) ≤ parts
  less : (greedyOf p l ((shortest p l parts).1 - 1)).2 = true → ¬ ((greedyOf p l ((shortest p l parts).1 - 1)).1.length : Int) ≤ parts
theorem short {p parts : Int} {l : List Int} (h : (shortest p l parts).2 = true) : Short p l parts := by
  unfold shortest at h
  split at h
  · rename_i h1
    simp only [Bool.and_eq_true] at h1
    split at h
    · rename_i j hj
      have e : shortest p l parts = (((j + 1 : Nat) : Int), true) := by
        unfold shortest
        rw [if_pos (by simp only [Bool.and_eq_true]; exact h1), hj]
      obtain ⟨hj1, hj2, hj3⟩ := firstTo_spec hj
      simp only [shortQ, Bool.and_eq_true, decide_eq_true_eq] at hj2
      have hg : ∀ i : Nat, i < 20 → greedyOf p l ((i + 1 : Nat) : Int) = greedy p l ((i + 1 : Nat) : Int) := fun i hi => by
        unfold greedyOf
        rw [if_pos (by rw [h1.1, inB_iff.2 (by omega)]; rfl)]
      have e1 : (shortest p l parts).1 = ((j + 1 : Nat) : Int) := by rw [e]
      refine ⟨by rw [e1]; omega, by rw [e1, hg j (by omega)]; exact hj2.1, by rw [e1, hg j (by omega)]; exact hj2.2, fun h2 h3 => ?_⟩
      rw [e1] at h2 h3
      rcases Nat.eq_zero_or_pos j with h0 | h0
      · subst h0
        unfold greedyOf at h2
        rw [if_neg (by simp [inB])] at h2
        cases h2
      · obtain ⟨i, rfl⟩ : ∃ i, j = i + 1 := ⟨j - 1, by omega⟩
        have h4 := hj3 i (by omega)
        rw [show ((i + 1 + 1 : Nat) : Int) - 1 = ((i + 1 : Nat) : Int) by omega, hg i (by omega)] at h2 h3
        unfold shortQ at h4
        rw [h2, decide_eq_true h3] at h4
        cases h4
    · cases h
  · cases h
end Go.Proofs.Ytfpglglolhlegaa
