/- Numbers and notices as the program reads them, in plain Lean. Conditions: none. -/
import Derived.Test.YtjabeiolgghfdaaGreatDoorZnL
import Derived.Lib.Atoi
import Derived.Lib.Replace
import Derived.Lib.SplitLaws
namespace Go.Proofs.YtjabeiolgghfdaaGreatDoor
open Go.RowKit
set_option maxRecDepth 100000
/-! A number's text -/
theorem decFrom_snoc {d : UInt8} : ∀ {a : List UInt8} {acc : Nat}, Lib.decFrom acc (a ++ [d]) = (Lib.decFrom acc a).bind fun m => Lib.decFrom m [d]
  | [], acc => rfl
  | x :: a, acc => by
    rw [List.cons_append, Lib.decFrom, Lib.decFrom]
    cases Lib.digitVal x with
    | none => rfl
    | some v => exact decFrom_snoc
theorem digitVal_of : ∀ k : Nat, k < 10 → Lib.digitVal (UInt8.ofNat (48 + k)) = some k := by decide
theorem decFrom_dec (n : Nat) : Lib.decFrom 0 (Lib.decDigits n) = some n := by
  induction n using Nat.strongRecOn with
  | _ n ih =>
    rw [Lib.decDigits]
    split
    · rename_i h
      rw [Lib.decFrom, digitVal_of n h]
      simp [Lib.decFrom]
    · rename_i h
      rw [decFrom_snoc, ih (n / 10) (by omega)]
      simp only [Option.bind_some, Lib.decFrom, digitVal_of (n % 10) (by omega)]
      congr 1
      omega
theorem decNat_dec (n : Nat) : Lib.decNat (Lib.decDigits n) = some n := by
  unfold Lib.decNat
  rw [if_neg (by have := dec_pos n; cases h : Lib.decDigits n <;> simp_all), decFrom_dec]
theorem atoi_itoa (n : Int) : Lib.atoi (Lib.itoa n) = some n := by
  rcases Int.lt_or_le n 0 with h | h
  · rw [itoa_neg h]
    simp only [Lib.atoi, beq_self_eq_true, if_true, decNat_dec, Option.map_some]
    congr 1
    omega
  · rw [itoa_pos h]
    have h45 := dec_no (n := n.toNat) (c := 45) (.inl (by decide))
    have h43 := dec_no (n := n.toNat) (c := 43) (.inl (by decide))
    have hd := decNat_dec n.toNat
    cases hl : Lib.decDigits n.toNat with
    | nil => have := dec_pos n.toNat; rw [hl] at this; simp at this
    | cons b r =>
      rw [hl] at h45 h43 hd
      simp only [List.mem_cons, not_or] at h45 h43
      show Lib.atoi (Lib.decDigits n.toNat) = some n
      rw [hl]
      simp only [Lib.atoi]
      rw [if_neg (by simpa using fun e : b = 45 => h45.1 e.symm), if_neg (by simpa using fun e : b = 43 => h43.1 e.symm), hd]
      simp only [Option.map_some]
      congr 1
      omega
/-- What the program reads as a number. -/
def parse7 (l : List UInt8) : Int × Bool := if 7 < l.length then (0, false) else match Lib.atoi l with
  | some n => if (inB n (-999999) 999999 && (Lib.itoa n == l)) = true then (n, true) else (0, false)
  | none => (0, false)
theorem signed_in {s t : List UInt8} (h6 : t.length ≤ 6) (hd : ∀ k, k < t.length → digB t k = true) : -999999 ≤ signed s t ∧ signed s t ≤ 999999 := by
  have h1 := valTo_range hd
  have h2 := pow_six h6
  unfold signed
  split <;> omega
theorem tailOf_len {s : List UInt8} : s.length ≤ (tailOf s).length + 1 := by
  unfold tailOf
  split
  · simp only [List.length_drop]; omega
  · omega
theorem readR_cases (l : List UInt8) : (∃ n, readR l = (n, true) ∧ Lib.itoa n = l ∧ -999999 ≤ n ∧ n ≤ 999999 ∧ l.length ≤ 7) ∨ readR l = (0, false) := by
  by_cases h : 1 ≤ (tailOf l).length ∧ (tailOf l).length ≤ 6 ∧ (∀ k, k < (tailOf l).length → digB (tailOf l) k = true) ∧ Lib.itoa (signed l (tailOf l)) = l
  · refine .inl ⟨signed l (tailOf l), readR_yes rfl h, h.2.2.2, (signed_in h.2.1 h.2.2.1).1, (signed_in h.2.1 h.2.2.1).2, ?_⟩
    have := tailOf_len (s := l)
    omega
  · exact .inr (readR_no rfl h)
theorem parse7_read (l : List UInt8) : parse7 l = readR l := by
  rcases readR_cases l with ⟨n, h1, h2, h3, h4, h5⟩ | h
  · rw [h1]
    have h6 : Lib.atoi l = some n := by rw [← h2]; exact atoi_itoa n
    unfold parse7
    rw [if_neg (by omega), h6]
    simp only
    rw [if_pos (by rw [inB_iff.2 ⟨h3, h4⟩, h2]; simp)]
  · rw [h]
    unfold parse7
    split
    · rfl
    · cases ha : Lib.atoi l with
      | none => rfl
      | some n =>
        simp only
        split
        · rename_i hc
          simp only [Bool.and_eq_true, inB_iff, beq_iff_eq] at hc
          have := readR_itoa hc.1.1 hc.1.2
          rw [hc.2, h] at this
          cases this
        · rfl
/-! Numbers among words -/
def numsTo (ws : List (List UInt8)) (ps : List Int) : Nat → Option (List Int)
  | 0 => some []
  | k + 1 => match numsTo ws ps k with
    | none => none
    | some o => if (ws.length : Int) ≤ nth ps k then none else if (readR (nth ws (nth ps k).toNat)).2 = true then some (o ++ [(readR (nth ws (nth ps k).toNat)).1]) else none
theorem numsTo_none {ws : List (List UInt8)} {ps : List Int} {k : Nat} (h : numsTo ws ps k = none) : ∀ {n : Nat}, k ≤ n → numsTo ws ps n = none
  | 0, hn => by obtain rfl : k = 0 := by omega
                exact h
  | n + 1, hn => by
    rcases Nat.lt_or_ge k (n + 1) with h1 | h1
    · rw [numsTo, numsTo_none h (by omega)]
    · obtain rfl : k = n + 1 := by omega
      exact h
theorem numsTo_len {ws : List (List UInt8)} {ps : List Int} : ∀ {n : Nat} {o : List Int}, numsTo ws ps n = some o → o.length = n
  | 0, o, h => by
    simp only [numsTo, Option.some.injEq] at h
    rw [← h]; rfl
  | n + 1, o, h => by
    rw [numsTo] at h
    cases hs : numsTo ws ps n with
    | none => rw [hs] at h; cases h
    | some q =>
      have ih := numsTo_len hs
      rw [hs] at h
      simp only at h
      split at h
      · cases h
      · split at h
        · simp only [Option.some.injEq] at h
          rw [← h]
          simp [ih]
        · cases h
theorem numsTo_far {ws : List (List UInt8)} {ps : List Int} {o : List Int} : ∀ {n i : Nat}, numsTo ws ps n = some o → i < n → nth ps i < (ws.length : Int)
  | n + 1, i, h, hi => by
    rw [numsTo] at h
    cases hs : numsTo ws ps n with
    | none => rw [hs] at h; cases h
    | some q =>
      rw [hs] at h
      simp only at h
      split at h
      · cases h
      · rename_i hc
        rcases Nat.lt_or_ge i n with h1 | h1
        · exact numsTo_far hs h1
        · obtain rfl : i = n := by omega
          omega
def numsL (ws : List (List UInt8)) (ps : List Int) : List Int := (numsTo ws ps ps.length).getD []
def numsB (ws : List (List UInt8)) (ps : List Int) : Bool := (numsTo ws ps ps.length).isSome
/-! The first sign taken out -/
theorem index_at {c : UInt8} {a r : List UInt8} (h : c ∉ a) : Lib.index (a ++ c :: r) [c] = (a.length : Int) := by rw [Lib.index_one, indexByte_at h]
theorem replace_at {c : UInt8} {a r : List UInt8} (h : c ∉ a) : Lib.replace (a ++ c :: r) [c] [] 1 = a ++ r := by
  have hc : Lib.count (a ++ c :: r) [c] = 1 + r.count c := by
    rw [Lib.count_one, List.count_append, List.count_cons_self, List.count_eq_zero.2 h]
    omega
  have hn : Lib.replaceNum (a ++ c :: r) [c] 1 = 0 + 1 := by
    unfold Lib.replaceNum
    rw [hc, if_neg (by omega)]
    rfl
  rw [Lib.replace, if_neg (by simp), hn, Lib.replaceK_hit _ _ _ _ _ (index_at h)]
  simp [Lib.replaceK, List.take_left', List.drop_append]
theorem replaceK_len {c : UInt8} : ∀ {k : Nat} {s : List UInt8}, (Lib.replaceK [c] [] k s).length ≤ s.length
  | 0, _ => Nat.le_refl _
  | k + 1, s => by
    rw [Lib.replaceK]
    split
    · exact Nat.le_refl _
    · have ih := replaceK_len (c := c) (k := k) (s := s.drop ((Lib.index s [c]).toNat + [c].length))
      simp only [List.length_append, List.length_take, List.length_drop, List.length_nil, List.length_cons] at ih ⊢
      omega
theorem replace_len {c : UInt8} {s : List UInt8} : (Lib.replace s [c] [] 1).length ≤ s.length := by
  unfold Lib.replace
  split
  · exact Nat.le_refl _
  · exact replaceK_len
/-! A notice's words, as the program sees them -/
def noteR (n : Notice) : List UInt8 := [110, 111, 116, 105, 99, 101, 32] ++ dec n.id ++ ([32] ++ kindT n ++ [32, 102, 114, 111, 109, 32, 107, 109, 32] ++ dec n.start ++ [32, 116, 111, 32, 107, 109, 32] ++ dec n.stop ++ [32, 111, 110, 32, 100, 97, 121, 115, 32] ++ dec n.first ++ [32, 116, 111, 32] ++ dec n.last)
theorem replace_note {n : Notice} : Lib.replace (noteT n) [58] [] 1 = noteR n := by
  have e : noteT n = ([110, 111, 116, 105, 99, 101, 32] ++ dec n.id) ++ 58 :: ([32] ++ kindT n ++ [32, 102, 114, 111, 109, 32, 107, 109, 32] ++ dec n.start ++ [32, 116, 111, 32, 107, 109, 32] ++ dec n.stop ++ [32, 111, 110, 32, 100, 97, 121, 115, 32] ++ dec n.first ++ [32, 116, 111, 32] ++ dec n.last) := by
    unfold noteT
    simp only [List.append_assoc, List.cons_append, List.nil_append]
  rw [e, replace_at (fun h => by
    rcases List.mem_append.1 h with h | h
    · exact absurd h (by decide)
    · exact dec_no (.inr (by decide)) h)]
  rfl
theorem noteR_words1 {n : Notice} (hk : n.kind = 1) : cutS 32 [] (noteR n) = [[110, 111, 116, 105, 99, 101], (dec n.id), [99, 108, 111, 115, 101, 100], [102, 114, 111, 109], [107, 109], (dec n.start), [116, 111], [107, 109], (dec n.stop), [111, 110], [100, 97, 121, 115], (dec n.first), [116, 111], (dec n.last)] := by
  have e : noteR n = [110, 111, 116, 105, 99, 101] ++ 32 :: ((dec n.id) ++ 32 :: ([99, 108, 111, 115, 101, 100] ++ 32 :: ([102, 114, 111, 109] ++ 32 :: ([107, 109] ++ 32 :: ((dec n.start) ++ 32 :: ([116, 111] ++ 32 :: ([107, 109] ++ 32 :: ((dec n.stop) ++ 32 :: ([111, 110] ++ 32 :: ([100, 97, 121, 115] ++ 32 :: ((dec n.first) ++ 32 :: ([116, 111] ++ 32 :: ((dec n.last)))))))))))))) := by
    unfold noteR kindT
    rw [if_pos hk]
    simp only [List.append_assoc, List.cons_append, List.nil_append]
  rw [e, cut_cons (by decide), cut_cons (dec_no (.inl (by decide))), cut_cons (by decide), cut_cons (by decide), cut_cons (by decide), cut_cons (dec_no (.inl (by decide))), cut_cons (by decide), cut_cons (by decide), cut_cons (dec_no (.inl (by decide))), cut_cons (by decide), cut_cons (by decide), cut_cons (dec_no (.inl (by decide))), cut_cons (by decide), cut_last (dec_no (.inl (by decide)))]
theorem noteR_words2 {n : Notice} (hk : n.kind = 2) : cutS 32 [] (noteR n) = [[110, 111, 116, 105, 99, 101], (dec n.id), [100, 101, 112, 116, 104], (dec n.value), [99, 109], [102, 114, 111, 109], [107, 109], (dec n.start), [116, 111], [107, 109], (dec n.stop), [111, 110], [100, 97, 121, 115], (dec n.first), [116, 111], (dec n.last)] := by
  have e : noteR n = [110, 111, 116, 105, 99, 101] ++ 32 :: ((dec n.id) ++ 32 :: ([100, 101, 112, 116, 104] ++ 32 :: ((dec n.value) ++ 32 :: ([99, 109] ++ 32 :: ([102, 114, 111, 109] ++ 32 :: ([107, 109] ++ 32 :: ((dec n.start) ++ 32 :: ([116, 111] ++ 32 :: ([107, 109] ++ 32 :: ((dec n.stop) ++ 32 :: ([111, 110] ++ 32 :: ([100, 97, 121, 115] ++ 32 :: ((dec n.first) ++ 32 :: ([116, 111] ++ 32 :: ((dec n.last)))))))))))))))) := by
    unfold noteR kindT
    rw [if_neg (by omega), if_pos hk]
    simp only [List.append_assoc, List.cons_append, List.nil_append]
  rw [e, cut_cons (by decide), cut_cons (dec_no (.inl (by decide))), cut_cons (by decide), cut_cons (dec_no (.inl (by decide))), cut_cons (by decide), cut_cons (by decide), cut_cons (by decide), cut_cons (dec_no (.inl (by decide))), cut_cons (by decide), cut_cons (by decide), cut_cons (dec_no (.inl (by decide))), cut_cons (by decide), cut_cons (by decide), cut_cons (dec_no (.inl (by decide))), cut_cons (by decide), cut_last (dec_no (.inl (by decide)))]
theorem noteR_words3 {n : Notice} (h1 : n.kind ≠ 1) (h2 : n.kind ≠ 2) : cutS 32 [] (noteR n) = [[110, 111, 116, 105, 99, 101], (dec n.id), [115, 112, 101, 101, 100], (dec n.value), [107, 109, 47, 104], [102, 114, 111, 109], [107, 109], (dec n.start), [116, 111], [107, 109], (dec n.stop), [111, 110], [100, 97, 121, 115], (dec n.first), [116, 111], (dec n.last)] := by
  have e : noteR n = [110, 111, 116, 105, 99, 101] ++ 32 :: ((dec n.id) ++ 32 :: ([115, 112, 101, 101, 100] ++ 32 :: ((dec n.value) ++ 32 :: ([107, 109, 47, 104] ++ 32 :: ([102, 114, 111, 109] ++ 32 :: ([107, 109] ++ 32 :: ((dec n.start) ++ 32 :: ([116, 111] ++ 32 :: ([107, 109] ++ 32 :: ((dec n.stop) ++ 32 :: ([111, 110] ++ 32 :: ([100, 97, 121, 115] ++ 32 :: ((dec n.first) ++ 32 :: ([116, 111] ++ 32 :: ((dec n.last)))))))))))))))) := by
    unfold noteR kindT
    rw [if_neg h1, if_neg h2]
    simp only [List.append_assoc, List.cons_append, List.nil_append]
  rw [e, cut_cons (by decide), cut_cons (dec_no (.inl (by decide))), cut_cons (by decide), cut_cons (dec_no (.inl (by decide))), cut_cons (by decide), cut_cons (by decide), cut_cons (by decide), cut_cons (dec_no (.inl (by decide))), cut_cons (by decide), cut_cons (by decide), cut_cons (dec_no (.inl (by decide))), cut_cons (by decide), cut_cons (by decide), cut_cons (dec_no (.inl (by decide))), cut_cons (by decide), cut_last (dec_no (.inl (by decide)))]
/-! What the program parses -/
/-- The words that the program takes apart. -/
def wordsI (s : List UInt8) : List (List UInt8) := cutS 32 [] (Lib.replace s [58] [] 1)
def kindI (ws : List (List UInt8)) : Int := if nth ws 2 = [100, 101, 112, 116, 104] then 2 else if nth ws 2 = [115, 112, 101, 101, 100] then 3 else 1
def atI (ws : List (List UInt8)) : Int := if nth ws 2 = [100, 101, 112, 116, 104] then 5 else if nth ws 2 = [115, 112, 101, 101, 100] then 5 else 3
def placesI (k : Int) : List Int := [1, k + 2, k + 5, k + 8, k + 10]
def noteI (ws : List (List UInt8)) : Notice := ⟨nth (numsL ws (placesI (atI ws))) 0, kindI ws, nth (numsL ws (placesI (atI ws))) 1, nth (numsL ws (placesI (atI ws))) 2, nth (numsL ws (placesI (atI ws))) 3, nth (numsL ws (placesI (atI ws))) 4, if atI ws = 5 then (readR (nth ws 3)).1 else 0⟩
theorem read_at {n : Int} (h0 : 0 ≤ n) (h1 : n ≤ 999) : readR (dec n) = (n, true) := by
  have := readR_itoa (n := n) (by omega) (by omega)
  rwa [itoa_pos h0] at this
/-- What is seen of a valid notice's text. -/
structure SeesI (s : List UInt8) (n : Notice) : Prop where
  len : 3 ≤ (wordsI s).length
  short : s.length ≤ 90
  nums : numsTo (wordsI s) (placesI (atI (wordsI s))) 5 = some [n.id, n.start, n.stop, n.first, n.last]
  value : atI (wordsI s) = 5 → readR (nth (wordsI s) 3) = (n.value, true)
  note : noteI (wordsI s) = n
theorem nums_five {ws : List (List UInt8)} {p0 p1 p2 p3 p4 v0 v1 v2 v3 v4 : Int} (h0 : p0 < ws.length) (h1 : p1 < ws.length) (h2 : p2 < ws.length) (h3 : p3 < ws.length) (h4 : p4 < ws.length) (r0 : readR (nth ws p0.toNat) = (v0, true)) (r1 : readR (nth ws p1.toNat) = (v1, true)) (r2 : readR (nth ws p2.toNat) = (v2, true)) (r3 : readR (nth ws p3.toNat) = (v3, true)) (r4 : readR (nth ws p4.toNat) = (v4, true)) :
    numsTo ws [p0, p1, p2, p3, p4] 5 = some [v0, v1, v2, v3, v4] := by
  have e : ∀ a b c d e : Int, nth [a, b, c, d, e] 0 = a ∧ nth [a, b, c, d, e] 1 = b ∧ nth [a, b, c, d, e] 2 = c ∧ nth [a, b, c, d, e] 3 = d ∧ nth [a, b, c, d, e] 4 = e := fun a b c d e => ⟨rfl, rfl, rfl, rfl, rfl⟩
  obtain ⟨e0, e1, e2, e3, e4⟩ := e p0 p1 p2 p3 p4
  have n0 := Int.not_le.2 h0
  have n1 := Int.not_le.2 h1
  have n2 := Int.not_le.2 h2
  have n3 := Int.not_le.2 h3
  have n4 := Int.not_le.2 h4
  simp [numsTo, e0, e1, e2, e3, e4, r0, r1, r2, r3, r4, n0, n1, n2, n3, n4]
theorem numsL_of {ws : List (List UInt8)} {k : Int} {o : List Int} (h : numsTo ws (placesI k) 5 = some o) : numsL ws (placesI k) = o := by
  unfold numsL
  rw [show (placesI k).length = 5 from rfl, h]
  rfl
theorem sees {n : Notice} (ho : noticeOk n = true) : SeesI (noteT n) n := by
  obtain ⟨⟨a1, a2⟩, ⟨b1, b2⟩, ⟨c1, c2⟩, ⟨d1, d2⟩, ⟨e1, e2⟩, ⟨f1, f2⟩, hk⟩ := note_small ho
  have r1 := read_at a1 a2
  have r2 := read_at b1 b2
  have r3 := read_at c1 c2
  have r4 := read_at d1 d2
  have r5 := read_at e1 e2
  have r6 := read_at f1 f2
  have hl := note_len ho
  rcases hk with ⟨hk, hv⟩ | hk | hk
  · have hw : wordsI (noteT n) = [[110, 111, 116, 105, 99, 101], (dec n.id), [99, 108, 111, 115, 101, 100], [102, 114, 111, 109], [107, 109], (dec n.start), [116, 111], [107, 109], (dec n.stop), [111, 110], [100, 97, 121, 115], (dec n.first), [116, 111], (dec n.last)] := by unfold wordsI; rw [replace_note, noteR_words1 hk]
    have hat : atI (wordsI (noteT n)) = 3 := by rw [hw]; rfl
    have hkd : kindI (wordsI (noteT n)) = 1 := by rw [hw]; rfl
    have hn : numsTo (wordsI (noteT n)) (placesI 3) 5 = some [n.id, n.start, n.stop, n.first, n.last] := by
      rw [hw]
      exact nums_five (by simp) (by simp) (by simp) (by simp) (by simp) r1 r2 r3 r4 r5
    refine ⟨by rw [hw]; simp, hl, by rw [hat]; exact hn, fun h => by rw [hat] at h; omega, ?_⟩
    unfold noteI
    rw [hat, hkd, numsL_of hn]
    show Notice.mk n.id 1 n.start n.stop n.first n.last (if (3 : Int) = 5 then (readR (nth (wordsI (noteT n)) 3)).1 else 0) = n
    rw [if_neg (by decide), ← hk, ← hv]
  · have hw : wordsI (noteT n) = [[110, 111, 116, 105, 99, 101], (dec n.id), [100, 101, 112, 116, 104], (dec n.value), [99, 109], [102, 114, 111, 109], [107, 109], (dec n.start), [116, 111], [107, 109], (dec n.stop), [111, 110], [100, 97, 121, 115], (dec n.first), [116, 111], (dec n.last)] := by unfold wordsI; rw [replace_note, noteR_words2 hk]
    have hat : atI (wordsI (noteT n)) = 5 := by rw [hw]; rfl
    have hkd : kindI (wordsI (noteT n)) = 2 := by rw [hw]; rfl
    have hn : numsTo (wordsI (noteT n)) (placesI 5) 5 = some [n.id, n.start, n.stop, n.first, n.last] := by
      rw [hw]
      exact nums_five (by simp) (by simp) (by simp) (by simp) (by simp) r1 r2 r3 r4 r5
    refine ⟨by rw [hw]; simp, hl, by rw [hat]; exact hn, fun _ => by rw [hw]; exact r6, ?_⟩
    unfold noteI
    rw [hat, hkd, numsL_of hn]
    show Notice.mk n.id 2 n.start n.stop n.first n.last (if (5 : Int) = 5 then (readR (nth (wordsI (noteT n)) 3)).1 else 0) = n
    rw [if_pos rfl, hw, show nth [[110, 111, 116, 105, 99, 101], (dec n.id), [100, 101, 112, 116, 104], (dec n.value), [99, 109], [102, 114, 111, 109], [107, 109], (dec n.start), [116, 111], [107, 109], (dec n.stop), [111, 110], [100, 97, 121, 115], (dec n.first), [116, 111], (dec n.last)] 3 = dec n.value from rfl, r6, ← hk]
  · have hw : wordsI (noteT n) = [[110, 111, 116, 105, 99, 101], (dec n.id), [115, 112, 101, 101, 100], (dec n.value), [107, 109, 47, 104], [102, 114, 111, 109], [107, 109], (dec n.start), [116, 111], [107, 109], (dec n.stop), [111, 110], [100, 97, 121, 115], (dec n.first), [116, 111], (dec n.last)] := by unfold wordsI; rw [replace_note, noteR_words3 (by omega) (by omega)]
    have hat : atI (wordsI (noteT n)) = 5 := by rw [hw]; rfl
    have hkd : kindI (wordsI (noteT n)) = 3 := by rw [hw]; rfl
    have hn : numsTo (wordsI (noteT n)) (placesI 5) 5 = some [n.id, n.start, n.stop, n.first, n.last] := by
      rw [hw]
      exact nums_five (by simp) (by simp) (by simp) (by simp) (by simp) r1 r2 r3 r4 r5
    refine ⟨by rw [hw]; simp, hl, by rw [hat]; exact hn, fun _ => by rw [hw]; exact r6, ?_⟩
    unfold noteI
    rw [hat, hkd, numsL_of hn]
    show Notice.mk n.id 3 n.start n.stop n.first n.last (if (5 : Int) = 5 then (readR (nth (wordsI (noteT n)) 3)).1 else 0) = n
    rw [if_pos rfl, hw, show nth [[110, 111, 116, 105, 99, 101], (dec n.id), [115, 112, 101, 101, 100], (dec n.value), [107, 109, 47, 104], [102, 114, 111, 109], [107, 109], (dec n.start), [116, 111], [107, 109], (dec n.stop), [111, 110], [100, 97, 121, 115], (dec n.first), [116, 111], (dec n.last)] 3 = dec n.value from rfl, r6, ← hk]
theorem parseS_no {s : List UInt8} (h : ∀ n, noticeOk n = true → noteT n ≠ s) : parseS s = (default, false) := by
  unfold parseS
  rw [if_neg (fun hh => h _ hh.2.2.2.1 hh.2.2.2.2)]
theorem parseS_yes {s : List UInt8} {n : Notice} (ho : noticeOk n = true) (h : noteT n = s) : parseS s = (n, true) := by rw [← h]; exact parse_back ho
end Go.Proofs.YtjabeiolgghfdaaGreatDoor
