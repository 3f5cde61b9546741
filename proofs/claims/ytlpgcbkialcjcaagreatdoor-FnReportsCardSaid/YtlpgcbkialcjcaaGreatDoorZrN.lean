/- Numbers as the program reads them, in plain Lean. Conditions: none. -/
import Derived.Test.YtlpgcbkialcjcaaGreatDoorZrK
import Derived.Lib.Atoi
import Derived.Lib.Replace
import Derived.Lib.SplitLaws
namespace Go.Proofs.YtlpgcbkialcjcaaGreatDoor
open Go.RowKit
set_option maxRecDepth 100000
/-! A number's text -/
theorem decFrom_snoc {d : UInt8} : ∀ {a : List UInt8} {acc : Nat}, Lib.decFrom acc (a ++ [d]) = (Lib.decFrom acc a).bind fun m => Lib.decFrom m [d]
  | [], acc => rfl
  | x :: a, acc => by
    rw [List.cons_append, Lib.decFrom, Lib.decFrom]
    cases Lib.digitVal x with
    | none => rfl
    | some v => exact decFrom_snoc
theorem digitVal_of : ∀ k : Nat, k < 10 → Lib.digitVal (UInt8.ofNat (48 + k)) = some k := by decide
theorem decFrom_dec (n : Nat) : Lib.decFrom 0 (Lib.decDigits n) = some n := by
  induction n using Nat.strongRecOn with
  | _ n ih =>
    rw [Lib.decDigits]
    split
    · rename_i h
      rw [Lib.decFrom, digitVal_of n h]
      simp [Lib.decFrom]
    · rename_i h
      rw [decFrom_snoc, ih (n / 10) (by omega)]
      simp only [Option.bind_some, Lib.decFrom, digitVal_of (n % 10) (by omega)]
      congr 1
      omega
theorem decNat_dec (n : Nat) : Lib.decNat (Lib.decDigits n) = some n := by
  unfold Lib.decNat
  rw [if_neg (by have := dec_pos n; cases h : Lib.decDigits n <;> simp_all), decFrom_dec]
theorem atoi_itoa (n : Int) : Lib.atoi (Lib.itoa n) = some n := by
  rcases Int.lt_or_le n 0 with h | h
  · rw [itoa_neg h]
    simp only [Lib.atoi, beq_self_eq_true, if_true, decNat_dec, Option.map_some]
    congr 1
    omega
  · rw [itoa_pos h]
    have h45 := dec_noC (n := n.toNat) (c := 45) (.inl (by decide))
    have h43 := dec_noC (n := n.toNat) (c := 43) (.inl (by decide))
    have hd := decNat_dec n.toNat
    cases hl : Lib.decDigits n.toNat with
    | nil => have := dec_pos n.toNat; rw [hl] at this; simp at this
    | cons b r =>
      rw [hl] at h45 h43 hd
      simp only [List.mem_cons, not_or] at h45 h43
      show Lib.atoi (Lib.decDigits n.toNat) = some n
      rw [hl]
      simp only [Lib.atoi]
      rw [if_neg (by simpa using fun e : b = 45 => h45.1 e.symm), if_neg (by simpa using fun e : b = 43 => h43.1 e.symm), hd]
      simp only [Option.map_some]
      congr 1
      omega
/-- What the program reads as a number. -/
def parse7 (l : List UInt8) : Int × Bool := if 7 < l.length then (0, false) else match Lib.atoi l with
  | some n => if (inB n (-999999) 999999 && (Lib.itoa n == l)) = true then (n, true) else (0, false)
  | none => (0, false)
theorem signed_in {s t : List UInt8} (h6 : t.length ≤ 6) (hd : ∀ k, k < t.length → digB t k = true) : -999999 ≤ signed s t ∧ signed s t ≤ 999999 := by
  have h1 := valTo_range hd
  have h2 := pow_six h6
  unfold signed
  split <;> omega
theorem tailOf_len {s : List UInt8} : s.length ≤ (tailOf s).length + 1 := by
  unfold tailOf
  split
  · simp only [List.length_drop]; omega
  · omega
theorem readR_cases (l : List UInt8) : (∃ n, readR l = (n, true) ∧ Lib.itoa n = l ∧ -999999 ≤ n ∧ n ≤ 999999 ∧ l.length ≤ 7) ∨ readR l = (0, false) := by
  by_cases h : 1 ≤ (tailOf l).length ∧ (tailOf l).length ≤ 6 ∧ (∀ k, k < (tailOf l).length → digB (tailOf l) k = true) ∧ Lib.itoa (signed l (tailOf l)) = l
  · refine .inl ⟨signed l (tailOf l), readR_yes rfl h, h.2.2.2, (signed_in h.2.1 h.2.2.1).1, (signed_in h.2.1 h.2.2.1).2, ?_⟩
    have := tailOf_len (s := l)
    omega
  · exact .inr (readR_no rfl h)
theorem parse7_read (l : List UInt8) : parse7 l = readR l := by
  rcases readR_cases l with ⟨n, h1, h2, h3, h4, h5⟩ | h
  · rw [h1]
    have h6 : Lib.atoi l = some n := by rw [← h2]; exact atoi_itoa n
    unfold parse7
    rw [if_neg (by omega), h6]
    simp only
    rw [if_pos (by rw [inB_iff.2 ⟨h3, h4⟩, h2]; simp)]
  · rw [h]
    unfold parse7
    split
    · rfl
    · cases ha : Lib.atoi l with
      | none => rfl
      | some n =>
        simp only
        split
        · rename_i hc
          simp only [Bool.and_eq_true, inB_iff, beq_iff_eq] at hc
          have := readR_itoa hc.1.1 hc.1.2
          rw [hc.2, h] at this
          cases this
        · rfl
/-! Numbers among words -/
def numsTo (ws : List (List UInt8)) (ps : List Int) : Nat → Option (List Int)
  | 0 => some []
  | k + 1 => match numsTo ws ps k with
    | none => none
    | some o => if (ws.length : Int) ≤ nth ps k then none else if (readR (nth ws (nth ps k).toNat)).2 = true then some (o ++ [(readR (nth ws (nth ps k).toNat)).1]) else none
theorem numsTo_none {ws : List (List UInt8)} {ps : List Int} {k : Nat} (h : numsTo ws ps k = none) : ∀ {n : Nat}, k ≤ n → numsTo ws ps n = none
  | 0, hn => by obtain rfl : k = 0 := by omega
                exact h
  | n + 1, hn => by
    rcases Nat.lt_or_ge k (n + 1) with h1 | h1
    · rw [numsTo, numsTo_none h (by omega)]
    · obtain rfl : k = n + 1 := by omega
      exact h
theorem numsTo_len {ws : List (List UInt8)} {ps : List Int} : ∀ {n : Nat} {o : List Int}, numsTo ws ps n = some o → o.length = n
  | 0, o, h => by
    simp only [numsTo, Option.some.injEq] at h
    rw [← h]; rfl
  | n + 1, o, h => by
    rw [numsTo] at h
    cases hs : numsTo ws ps n with
    | none => rw [hs] at h; cases h
    | some q =>
      have ih := numsTo_len hs
      rw [hs] at h
      simp only at h
      split at h
      · cases h
      · split at h
        · simp only [Option.some.injEq] at h
          rw [← h]
          simp [ih]
        · cases h
theorem numsTo_far {ws : List (List UInt8)} {ps : List Int} {o : List Int} : ∀ {n i : Nat}, numsTo ws ps n = some o → i < n → nth ps i < (ws.length : Int)
  | n + 1, i, h, hi => by
    rw [numsTo] at h
    cases hs : numsTo ws ps n with
    | none => rw [hs] at h; cases h
    | some q =>
      rw [hs] at h
      simp only at h
      split at h
      · cases h
      · rename_i hc
        rcases Nat.lt_or_ge i n with h1 | h1
        · exact numsTo_far hs h1
        · obtain rfl : i = n := by omega
          omega
def numsL (ws : List (List UInt8)) (ps : List Int) : List Int := (numsTo ws ps ps.length).getD []
def numsB (ws : List (List UInt8)) (ps : List Int) : Bool := (numsTo ws ps ps.length).isSome
/-! The first sign taken out -/
theorem index_at {c : UInt8} {a r : List UInt8} (h : c ∉ a) : Lib.index (a ++ c :: r) [c] = (a.length : Int) := by rw [Lib.index_one, indexByte_at h]
theorem replace_at {c : UInt8} {a r : List UInt8} (h : c ∉ a) : Lib.replace (a ++ c :: r) [c] [] 1 = a ++ r := by
  have hc : Lib.count (a ++ c :: r) [c] = 1 + r.count c := by
    rw [Lib.count_one, List.count_append, List.count_cons_self, List.count_eq_zero.2 h]
    omega
  have hn : Lib.replaceNum (a ++ c :: r) [c] 1 = 0 + 1 := by
    unfold Lib.replaceNum
    rw [hc, if_neg (by omega)]
    rfl
  rw [Lib.replace, if_neg (by simp), hn, Lib.replaceK_hit _ _ _ _ _ (index_at h)]
  simp [Lib.replaceK, List.take_left', List.drop_append]
theorem replaceK_len {c : UInt8} : ∀ {k : Nat} {s : List UInt8}, (Lib.replaceK [c] [] k s).length ≤ s.length
  | 0, _ => Nat.le_refl _
  | k + 1, s => by
    rw [Lib.replaceK]
    split
    · exact Nat.le_refl _
    · have ih := replaceK_len (c := c) (k := k) (s := s.drop ((Lib.index s [c]).toNat + [c].length))
      simp only [List.length_append, List.length_take, List.length_drop, List.length_nil, List.length_cons] at ih ⊢
      omega
theorem replace_len {c : UInt8} {s : List UInt8} : (Lib.replace s [c] [] 1).length ≤ s.length := by
  unfold Lib.replace
  split
  · exact Nat.le_refl _
  · exact replaceK_len
end Go.Proofs.YtlpgcbkialcjcaaGreatDoor
