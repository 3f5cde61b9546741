/- Convoys: no split has fewer parts than the greedy one, the even one is no worse; in plain Lean. Conditions: none. -/
import Derived.Test.YtfpglglolhlegaaConF
namespace Go.Proofs.Ytfpglglolhlegaa
open Go.RowKit
set_option maxRecDepth 100000
theorem firstTo_no {n : Nat} {p : Nat → Bool} (h : firstTo n p = none) : ∀ i, i < n → p i = false := fun i hi => by
  by_cases hp : p i = true
  · simp only [firstTo, List.find?_eq_none, List.mem_range] at h
    exact absurd hp (h i hi)
  · simpa using hp
section
variable {p cl : Int} {l ps : List Int}
theorem sumTo_mono (hb : ∀ k, k < l.length → 1 ≤ nth l k ∧ nth l k ≤ 6) {a : Nat} : ∀ {b : Nat}, a ≤ b → b ≤ l.length → sumTo l a ≤ sumTo l b
  | 0, h, _ => by obtain rfl : a = 0 := by omega
                  exact Int.le_refl _
  | b + 1, h, hl => by
    rcases Nat.lt_or_ge a (b + 1) with h4 | h4
    · have := sumTo_mono hb (a := a) (b := b) (by omega) (by omega)
      have h5 := hb b (by omega)
      rw [sumTo]; omega
    · obtain rfl : a = b + 1 := by omega
      exact Int.le_refl _
theorem fits_iff {k n : Nat} : fits p l cl k n = true ↔ k + n < l.length ∧ p + (sumTo l (k + n + 1) - sumTo l k) ≤ cl := by
  simp only [fits, Bool.and_eq_true, decide_eq_true_eq]
  omega
theorem takeN_spec (k : Nat) (hk : k ≤ l.length) : (∀ i, i < takeN p l cl k → fits p l cl k i = true) ∧ fits p l cl k (takeN p l cl k) = false ∧ k + takeN p l cl k ≤ l.length := by
  have hno : fits p l cl k (l.length - k) = false := by
    rw [← Bool.not_eq_true, fits_iff]
    omega
  cases h : firstTo (l.length + 1) (fun n => !fits p l cl k n) with
  | none =>
    have h1 := firstTo_no h (l.length - k) (by omega)
    rw [hno] at h1
    cases h1
  | some j =>
    obtain ⟨h1, h2, h3⟩ := firstTo_spec h
    have e : takeN p l cl k = j := by unfold takeN; rw [h]; rfl
    rw [e]
    refine ⟨fun i hi => by simpa using h3 i hi, by simpa using h2, ?_⟩
    rcases Nat.lt_or_ge (l.length - k) j with h4 | h4
    · have := h3 _ h4
      rw [hno] at this
      cases this
    · omega
/-- What is some behind all parts is some behind the first. -/
theorem slacksGo_pre {i j e : Nat} {o : List Int} (h : slacksGo p l cl ps j = some (o, e)) (hij : i ≤ j) : ∃ o1 e1, slacksGo p l cl ps i = some (o1, e1) := by
  cases h1 : slacksGo p l cl ps i with
  | none =>
    have : ∀ j, i ≤ j → slacksGo p l cl ps j = none := fun j hj => by
      induction j with
      | zero => obtain rfl : i = 0 := by omega
                exact h1
      | succ j ih =>
        rcases Nat.lt_or_ge i (j + 1) with h2 | h2
        · rw [slacksGo, ih (by omega)]
        · obtain rfl : i = j + 1 := by omega
          exact h1
    rw [this j hij] at h
    cases h
  | some x => exact ⟨x.1, x.2, rfl⟩
theorem slacksGo_next {j e e2 : Nat} {o o2 : List Int} (h : slacksGo p l cl ps j = some (o, e)) (h2 : slacksGo p l cl ps (j + 1) = some (o2, e2)) : 1 ≤ nth ps j ∧ e2 = e + (nth ps j).toNat ∧ e2 ≤ l.length ∧ 0 ≤ slackOf p l cl e (nth ps j).toNat ∧ o2 = o ++ [slackOf p l cl e (nth ps j).toNat] := by
  rw [slacksGo, h] at h2
  simp only at h2
  split at h2
  · split at h2
    · cases h2
    · simp only [Option.some.injEq, Prod.mk.injEq] at h2
      obtain ⟨rfl, rfl⟩ := h2
      refine ⟨by omega, rfl, by omega, by omega, rfl⟩
  · cases h2
/-- No split has fewer parts than the greedy one. -/
theorem greedy_min (hb : ∀ k, k < l.length → 1 ≤ nth l k ∧ nth l k ≤ 6) {oF : List Int} (hF : slacksGo p l cl ps ps.length = some (oF, l.length)) :
    ∀ (N f k j e : Nat) (o so : List Int), f + (ps.length - j) ≤ N → l.length + 1 ≤ k + f → k ≤ l.length → j ≤ ps.length → slacksGo p l cl ps j = some (so, e) → e ≤ k → o.length ≤ j → (greedyGo p l cl f k o).2 = true ∧ (greedyGo p l cl f k o).1.length ≤ ps.length
  | 0, f, k, j, e, o, so, hN, hf, hkl, hj, hs, hek, hoj => by omega
  | N + 1, f, k, j, e, o, so, hN, hf, hkl, hj, hs, hek, hoj => by
    obtain ⟨f, rfl⟩ : ∃ g, f = g + 1 := ⟨f - 1, by omega⟩
    by_cases hk : l.length ≤ k
    · rw [greedyGo, if_pos hk]
      exact ⟨rfl, by simp only; omega⟩
    · have hjl : j < ps.length := by
        rcases Nat.lt_or_ge j ps.length with h | h
        · exact h
        · obtain rfl : j = ps.length := by omega
          rw [hF] at hs
          simp only [Option.some.injEq, Prod.mk.injEq] at hs
          omega
      obtain ⟨o2, e2, hs2⟩ := slacksGo_pre hF (show j + 1 ≤ ps.length by omega)
      obtain ⟨h1, h2, h3, h4, _⟩ := slacksGo_next hs hs2
      rcases Nat.lt_or_ge k e2 with h5 | h5
      · obtain ⟨t1, t2, t3⟩ := takeN_spec (p := p) (cl := cl) k hkl
        have hge : e2 ≤ k + takeN p l cl k := by
          rcases Nat.lt_or_ge (k + takeN p l cl k) e2 with h6 | h6
          · have : fits p l cl k (takeN p l cl k) = true := by
              rw [fits_iff]
              refine ⟨by omega, ?_⟩
              have m1 := sumTo_mono hb (a := k + takeN p l cl k + 1) (b := e2) (by omega) h3
              have m2 := sumTo_mono hb (a := e) (b := k) hek hkl
              unfold slackOf at h4
              rw [← h2] at h4
              omega
            rw [t2] at this
            cases this
          · exact h6
        rw [greedyGo, if_neg hk, if_neg (by omega)]
        exact greedy_min hb hF N f _ (j + 1) e2 _ o2 (by omega) (by omega) t3 (by omega) hs2 hge (by simp; omega)
      · exact greedy_min hb hF N (f + 1) k (j + 1) e2 o o2 (by omega) hf hkl (by omega) hs2 h5 (by omega)
/-- The greedy split is a split. -/
theorem greedy_is : ∀ (f k : Nat) (o so out : List Int), l.length + 1 ≤ k + f → k ≤ l.length → slacks p l cl o = some (so, k) → greedyGo p l cl f k o = (out, true) → ∃ so2, slacks p l cl out = some (so2, l.length)
  | 0, k, o, so, out, hf, hk, hs, hg => by omega
  | f + 1, k, o, so, out, hf, hk, hs, hg => by
    rw [greedyGo] at hg
    split at hg
    · simp only [Prod.mk.injEq, and_true] at hg
      subst hg
      obtain rfl : k = l.length := by omega
      exact ⟨so, hs⟩
    · split at hg
      · simp at hg
      · rename_i h1 h2
        obtain ⟨t1, t2, t3⟩ := takeN_spec (p := p) (l := l) (cl := cl) k hk
        refine greedy_is f (k + takeN p l cl k) (o ++ [(takeN p l cl k : Int)]) (so ++ [slackOf p l cl k (takeN p l cl k)]) out (by omega) t3 ?_ hg
        have h3 := fits_iff.1 (t1 (takeN p l cl k - 1) (by omega))
        have h4 : ¬ slackOf p l cl k (takeN p l cl k) < 0 := by
          unfold slackOf
          rw [show k + (takeN p l cl k - 1) + 1 = k + takeN p l cl k by omega] at h3
          omega
        rw [slacks_snoc, hs]
        simp only [Int.toNat_natCast]
        rw [if_pos (by omega), if_neg h4]
/-- What the best of many is. -/
theorem foldTo_le {f : Nat → EvB} {i : Nat} : ∀ {m : Nat}, 1 ≤ i → i ≤ m → 0 ≤ (f i).2 → 0 ≤ (foldTo f m).2 ∧ (foldTo f m).2 ≤ (f i).2
  | 0, h1, h2, _ => by omega
  | m + 1, h1, h2, h3 => by
    rw [foldTo]
    rcases Nat.lt_or_ge i (m + 1) with h4 | h4
    · have ih := foldTo_le (f := f) (m := m) h1 (by omega) h3
      unfold comb
      split <;> omega
    · obtain rfl : i = m + 1 := by omega
      unfold comb
      split <;> omega
theorem foldTo_is {f : Nat → EvB} : ∀ {m : Nat}, 0 ≤ (foldTo f m).2 → ∃ i, 1 ≤ i ∧ i ≤ m ∧ foldTo f m = f i
  | 0, h => by simp [foldTo] at h
  | m + 1, h => by
    rw [foldTo] at h ⊢
    unfold comb at h ⊢
    split at h
    · rename_i h1
      rw [if_pos h1]
      exact ⟨m + 1, by omega, Nat.le_refl _, rfl⟩
    · rename_i h1
      rw [if_neg h1]
      obtain ⟨i, h2, h3, h4⟩ := foldTo_is h
      exact ⟨i, h2, by omega, h4⟩
theorem evenGo_is : ∀ {k : Nat} {s : List Int}, 0 ≤ (evenGo p l cl k s).2 → (∀ s o e, slacks p l cl s = some (o, e) → e ≤ l.length) → ∃ o, slacks p l cl (evenGo p l cl k s).1 = some (o, l.length) ∧ (evenGo p l cl k s).2 = sqTo o o.length ∧ (evenGo p l cl k s).1.length = s.length + k
  | 0, s, h, hle => by
    rw [evenGo] at h ⊢
    cases hs : slacks p l cl s with
    | none => rw [hs] at h; simp at h
    | some x =>
      obtain ⟨o, e⟩ := x
      rw [hs] at h
      simp only at h ⊢
      have h1 := hle _ _ _ hs
      split at h
      · simp at h
      · rename_i h2
        rw [if_neg h2]
        obtain rfl : e = l.length := by omega
        exact ⟨o, hs, rfl, rfl⟩
  | k + 1, s, h, hle => by
    rw [evenGo] at h ⊢
    cases hs : slacks p l cl s with
    | none => rw [hs] at h; simp at h
    | some x =>
      obtain ⟨o, e⟩ := x
      rw [hs] at h
      simp only at h ⊢
      obtain ⟨i, h1, h2, h3⟩ := foldTo_is h
      rw [h3] at h ⊢
      obtain ⟨o2, h4, h5, h6⟩ := evenGo_is h hle
      exact ⟨o2, h4, h5, by rw [h6]; simp; omega⟩
theorem evenGo_best : ∀ {k : Nat} {s t o : List Int}, t.length = k → slacks p l cl (s ++ t) = some (o, l.length) → (∀ s o e, slacks p l cl s = some (o, e) → e ≤ l.length) → 0 ≤ (evenGo p l cl k s).2 ∧ (evenGo p l cl k s).2 ≤ sqTo o o.length
  | 0, s, t, o, ht, hs, _ => by
    obtain rfl := List.eq_nil_of_length_eq_zero ht
    rw [List.append_nil] at hs
    rw [evenGo, hs]
    simp only
    rw [if_neg (by omega)]
    exact ⟨sqTo_nonneg, Int.le_refl _⟩
  | k + 1, s, [], o, ht, hs, _ => by simp at ht
  | k + 1, s, n :: t, o, ht, hs, hle => by
    rw [show s ++ n :: t = (s ++ [n]) ++ t by simp] at hs
    have hs1 : ∃ o1 e1, slacks p l cl (s ++ [n]) = some (o1, e1) := by
      obtain ⟨o1, e1, h1⟩ := slacksGo_pre (i := (s ++ [n]).length) hs (by simp)
      rw [slacksGo_app (Nat.le_refl _)] at h1
      exact ⟨o1, e1, h1⟩
    obtain ⟨o1, e1, h1⟩ := hs1
    have h1' := h1
    rw [slacks_snoc] at h1
    cases h2 : slacks p l cl s with
    | none => rw [h2] at h1; cases h1
    | some x =>
      obtain ⟨o2, e2⟩ := x
      rw [h2] at h1
      simp only at h1
      split at h1
      · rename_i h3
        obtain ⟨i, rfl⟩ : ∃ i : Nat, n = (i : Int) := ⟨n.toNat, by omega⟩
        have ih := evenGo_best (k := k) (s := s ++ [(i : Int)]) (t := t) (by simpa using ht) hs hle
        rw [evenGo, h2]
        simp only
        have h4 := foldTo_le (f := fun n => evenGo p l cl k (s ++ [(n : Int)])) (i := i) (m := l.length - e2) (by omega) (by omega) ih.1
        have h5 : (foldTo (fun n => evenGo p l cl k (s ++ [(n : Int)])) (l.length - e2)).2 ≤ (evenGo p l cl k (s ++ [(i : Int)])).2 := h4.2
        exact ⟨h4.1, by omega⟩
      · cases h1
/-- The slacks' sum. -/
theorem slacksGo_sum : ∀ {i e : Nat} {o : List Int}, slacksGo p l cl ps i = some (o, e) → o.sum = (i : Int) * (cl - p) - sumTo l e
  | 0, e, o, h => by
    simp only [slacksGo, Option.some.injEq, Prod.mk.injEq] at h
    obtain ⟨rfl, rfl⟩ := h
    simp [sumTo]
  | i + 1, e, o, h => by
    obtain ⟨o1, e1, h1⟩ := slacksGo_pre h (show i ≤ i + 1 by omega)
    have ih := slacksGo_sum h1
    obtain ⟨h2, h3, h4, h5, h6⟩ := slacksGo_next h1 h
    subst h3
    rw [h6, List.sum_append, ih]
    simp only [List.sum_cons, List.sum_nil, slackOf]
    rw [Int.natCast_add, Int.add_mul]
    omega
end
section
variable {p cl : Int} {l ps : List Int}
theorem isSplit_iff : isSplit p l cl ps = true ↔ validConvoy p l = true ∧ inB cl 1 20 = true ∧ ∃ o, slacks p l cl ps = some (o, l.length) := by
  unfold isSplit
  simp only [Bool.and_eq_true]
  constructor
  · rintro ⟨⟨h1, h2⟩, h3, h4⟩
    refine ⟨h1, h2, ?_⟩
    cases h : slacks p l cl ps with
    | none => rw [h] at h3; cases h3
    | some x =>
      obtain ⟨o, e⟩ := x
      rw [h] at h4
      have h5 := of_decide_eq_true h4
      simp only [slAt] at h5
      obtain rfl : e = l.length := by omega
      exact ⟨o, rfl⟩
  · rintro ⟨h1, h2, o, h⟩
    refine ⟨⟨h1, h2⟩, ?_⟩
    rw [h]
    simp [slAt]
/-- The greedy and the even split, held together. -/
structure Both (p : Int) (l : List Int) (cl : Int) : Prop where
  one : isSplit p l cl (greedyOf p l cl).1 = true
  two : isSplit p l cl (evenOf p l cl).1 = true
  len : (evenOf p l cl).1.length = (greedyOf p l cl).1.length
  la : (slacksOfRow p l cl (greedyOf p l cl).1).length ≤ 8
  lb : (slacksOfRow p l cl (evenOf p l cl).1).length ≤ 8
  ina : ∀ x ∈ slacksOfRow p l cl (greedyOf p l cl).1, 0 ≤ x ∧ x ≤ 20
  inb : ∀ x ∈ slacksOfRow p l cl (evenOf p l cl).1, 0 ≤ x ∧ x ≤ 20
  sq : sqTo (slacksOfRow p l cl (evenOf p l cl).1) (slacksOfRow p l cl (evenOf p l cl).1).length ≤ sqTo (slacksOfRow p l cl (greedyOf p l cl).1) (slacksOfRow p l cl (greedyOf p l cl).1).length
  sum : sumTo (slacksOfRow p l cl (greedyOf p l cl).1) (slacksOfRow p l cl (greedyOf p l cl).1).length = sumTo (slacksOfRow p l cl (evenOf p l cl).1) (slacksOfRow p l cl (evenOf p l cl).1).length
theorem greedyOf_yes (h : (greedyOf p l cl).2 = true) : (validConvoy p l && inB cl 1 20) = true ∧ greedyOf p l cl = greedy p l cl := by
  unfold greedyOf at h ⊢
  split at h
  · rename_i h1
    rw [if_pos h1]
    exact ⟨h1, rfl⟩
  · cases h
theorem both (h : (greedyOf p l cl).2 = true) : Both p l cl := by
  obtain ⟨h1, h2⟩ := greedyOf_yes h
  have h1' := h1
  simp only [Bool.and_eq_true] at h1'
  obtain ⟨hv, hc⟩ := h1'
  have hcl := inB_iff.1 hc
  obtain ⟨hp1, hp2, hl1, hl2, hbb⟩ := validConvoy_ok hv
  have hgl := greedyOf_len (p := p) (l := l) (cl := cl)
  have hle : ∀ s o e, slacks p l cl s = some (o, e) → e ≤ l.length := fun s o e hs => (slacksGo_in hp1 hcl.2 hbb hs).1
  have hG : ∃ so, slacks p l cl (greedyOf p l cl).1 = some (so, l.length) := by
    rw [h2] at h ⊢
    have e : greedyGo p l cl (l.length + 1) 0 [] = ((greedy p l cl).1, true) := by
      rw [← h]; rfl
    exact greedy_is (l.length + 1) 0 [] [] _ (by omega) (by omega) rfl e
  obtain ⟨oa, ha⟩ := hG
  have hE : evenOf p l cl = ((evenGo p l cl (greedyOf p l cl).1.length []).1, true) := by unfold evenOf; rw [if_pos h]
  obtain ⟨b1, b2⟩ := evenGo_best (s := []) (t := (greedyOf p l cl).1) rfl (by simpa using ha) hle
  obtain ⟨ob, hb1, hb2, hb3⟩ := evenGo_is b1 hle
  have s1 : isSplit p l cl (greedyOf p l cl).1 = true := isSplit_iff.2 ⟨hv, hc, oa, ha⟩
  have s2 : isSplit p l cl (evenOf p l cl).1 = true := isSplit_iff.2 ⟨hv, hc, ob, by rw [hE]; exact hb1⟩
  have ra : slacksOfRow p l cl (greedyOf p l cl).1 = oa := by unfold slacksOfRow; rw [if_pos s1, ha]; rfl
  have rb : slacksOfRow p l cl (evenOf p l cl).1 = ob := by unfold slacksOfRow; rw [if_pos s2, hE]; simp only; rw [hb1]; rfl
  have ia := slacksGo_in hp1 hcl.2 hbb ha
  have ib := slacksGo_in hp1 hcl.2 hbb hb1
  have hlen : (evenOf p l cl).1.length = (greedyOf p l cl).1.length := by rw [hE]; simp only; rw [hb3]; simp
  refine ⟨s1, s2, hlen, by rw [ra]; omega, by rw [rb]; have := hb3; simp at this; omega, by rw [ra]; exact ia.2.2.2, by rw [rb]; exact ib.2.2.2, by rw [ra, rb, ← hb2]; exact b2, ?_⟩
  rw [ra, rb, sumTo_sum, sumTo_sum, slacksGo_sum ha, slacksGo_sum hb1, hb3]
  simp
theorem split_min (h : isSplit p l cl ps = true) : (greedyOf p l cl).2 = true ∧ (greedyOf p l cl).1.length ≤ ps.length := by
  obtain ⟨hv, hc, o, ho⟩ := isSplit_iff.1 h
  obtain ⟨hp1, hp2, hl1, hl2, hbb⟩ := validConvoy_ok hv
  have e : greedyOf p l cl = greedy p l cl := by unfold greedyOf; rw [if_pos (by rw [hv, hc]; rfl)]
  rw [e]
  exact greedy_min hbb ho _ (l.length + 1) 0 0 0 [] [] (Nat.le_refl _) (by omega) (by omega) (by omega) rfl (by omega) (by simp)
end
end Go.Proofs.Ytfpglglolhlegaa
