/- Messages: parsed back out of their texts, by the reference and by the program, in plain Lean. Conditions: none. -/
import Derived.Test.YtlpgcbkialcjcaaGreatDoorZrO
namespace Go.Proofs.YtlpgcbkialcjcaaGreatDoor
open Go.RowKit
set_option maxRecDepth 100000
theorem word_blank : ∀ k : Nat, k < 4 → (32 : UInt8) ∉ nth wordsL k := by decide
theorem msg_words {r : Report} (h : oneR r = true) : cutS 32 [] (msgT r) = [[118, 101, 115, 115, 101, 108], (dec r.vessel), [114, 101, 112, 111, 114, 116], (dec r.number ++ [58]), (nth wordsL r.kind.toNat), [97, 116], [107, 109], (dec r.place), [109, 105, 110, 117, 116, 101], (dec r.minute), [99, 111, 110, 101, 115], (dec r.cones)] := by
  obtain ⟨_, _, ⟨hd1, hd2⟩, _⟩ := one_bnd h
  have hk := word_blank r.kind.toNat (by omega)
  have e : msgT r = [118, 101, 115, 115, 101, 108] ++ 32 :: ((dec r.vessel) ++ 32 :: ([114, 101, 112, 111, 114, 116] ++ 32 :: ((dec r.number ++ [58]) ++ 32 :: ((nth wordsL r.kind.toNat) ++ 32 :: ([97, 116] ++ 32 :: ([107, 109] ++ 32 :: ((dec r.place) ++ 32 :: ([109, 105, 110, 117, 116, 101] ++ 32 :: ((dec r.minute) ++ 32 :: ([99, 111, 110, 101, 115] ++ 32 :: ((dec r.cones)))))))))))) := by
    unfold msgT
    simp only [List.append_assoc, List.cons_append, List.nil_append]
  rw [e, cut_cons (by decide), cut_cons (dec_noC (.inl (by decide))), cut_cons (by decide), cut_cons dec_noc, cut_cons hk, cut_cons (by decide), cut_cons (by decide), cut_cons (dec_noC (.inl (by decide))), cut_cons (by decide), cut_cons (dec_noC (.inl (by decide))), cut_cons (by decide), cut_last (dec_noC (.inl (by decide)))]
/-- The message without its colon. -/
def msgR (r : Report) : List UInt8 := [118, 101, 115, 115, 101, 108, 32] ++ dec r.vessel ++ [32, 114, 101, 112, 111, 114, 116, 32] ++ dec r.number ++ ([32] ++ nth wordsL r.kind.toNat ++ [32, 97, 116, 32, 107, 109, 32] ++ dec r.place ++ [32, 109, 105, 110, 117, 116, 101, 32] ++ dec r.minute ++ [32, 99, 111, 110, 101, 115, 32] ++ dec r.cones)
theorem msgR_words {r : Report} (h : oneR r = true) : cutS 32 [] (msgR r) = [[118, 101, 115, 115, 101, 108], (dec r.vessel), [114, 101, 112, 111, 114, 116], (dec r.number), (nth wordsL r.kind.toNat), [97, 116], [107, 109], (dec r.place), [109, 105, 110, 117, 116, 101], (dec r.minute), [99, 111, 110, 101, 115], (dec r.cones)] := by
  obtain ⟨_, _, ⟨hd1, hd2⟩, _⟩ := one_bnd h
  have hk := word_blank r.kind.toNat (by omega)
  have e : msgR r = [118, 101, 115, 115, 101, 108] ++ 32 :: ((dec r.vessel) ++ 32 :: ([114, 101, 112, 111, 114, 116] ++ 32 :: ((dec r.number) ++ 32 :: ((nth wordsL r.kind.toNat) ++ 32 :: ([97, 116] ++ 32 :: ([107, 109] ++ 32 :: ((dec r.place) ++ 32 :: ([109, 105, 110, 117, 116, 101] ++ 32 :: ((dec r.minute) ++ 32 :: ([99, 111, 110, 101, 115] ++ 32 :: ((dec r.cones)))))))))))) := by
    unfold msgR
    simp only [List.append_assoc, List.cons_append, List.nil_append]
  rw [e, cut_cons (by decide), cut_cons (dec_noC (.inl (by decide))), cut_cons (by decide), cut_cons (dec_noC (.inl (by decide))), cut_cons hk, cut_cons (by decide), cut_cons (by decide), cut_cons (dec_noC (.inl (by decide))), cut_cons (by decide), cut_cons (dec_noC (.inl (by decide))), cut_cons (by decide), cut_last (dec_noC (.inl (by decide)))]
theorem replace_msg {r : Report} : Lib.replace (msgT r) [58] [] 1 = msgR r := by
  have e : msgT r = ([118, 101, 115, 115, 101, 108, 32] ++ dec r.vessel ++ [32, 114, 101, 112, 111, 114, 116, 32] ++ dec r.number) ++ 58 :: ([32] ++ nth wordsL r.kind.toNat ++ [32, 97, 116, 32, 107, 109, 32] ++ dec r.place ++ [32, 109, 105, 110, 117, 116, 101, 32] ++ dec r.minute ++ [32, 99, 111, 110, 101, 115, 32] ++ dec r.cones) := by
    unfold msgT
    simp only [List.append_assoc, List.cons_append, List.nil_append]
  rw [e, replace_at (fun h => by
    rcases List.mem_append.1 h with h | h
    · rcases List.mem_append.1 h with h | h
      · rcases List.mem_append.1 h with h | h
        · exact absurd h (by decide)
        · exact dec_noC (.inr (by decide)) h
      · exact absurd h (by decide)
    · exact dec_noC (.inr (by decide)) h)]
  rfl
/-! The seal -/
theorem cut_35 {a r : List UInt8} (h : (35 : UInt8) ∉ a) : cutS 35 [] (a ++ 35 :: r) = a :: cutS 35 [] r := by
  have := cutS_at (b := 35) (r := r) (acc := []) h
  simpa using this
theorem seal_app {l : List UInt8} : sealT l = l ++ 35 :: dec (sumOf l) := by unfold sealT; simp
theorem msg_no' {r : Report} (h : oneR r = true) : (35 : UInt8) ∉ msgT r := fun hm => by
  have := msg_no h
  rw [Bool.eq_false_iff] at this
  exact this (by rw [List.contains_iff_mem]; exact hm)
theorem sum_in {l : List UInt8} : 0 ≤ sumOf l ∧ sumOf l < 999979 := sumTo_range (l := l) (k := l.length)
theorem seal_len {l : List UInt8} : (sealT l).length ≤ l.length + 8 := by
  have h1 := sum_in (l := l)
  have h2 := dec_len (n := sumOf l) (by omega) (by omega)
  simp only [sealT, List.length_append, List.length_cons, List.length_nil]
  omega
theorem head_seal {r : Report} (h : oneR r = true) : nth (cutS 35 [] (sealT (msgT r))) 0 = msgT r := by
  rw [seal_app, cut_35 (msg_no' h)]
  rfl
theorem cut_at {c : UInt8} {a r : List UInt8} (h : c ∉ a) : Lib.cut (a ++ c :: r) [c] = (a, r, true) := by
  unfold Lib.cut
  rw [index_at h, if_pos (by omega)]
  simp [List.drop_append]
theorem cut_seal {r : Report} (h : oneR r = true) : Lib.cut (sealT (msgT r)) [35] = (msgT r, dec (sumOf (msgT r)), true) := by rw [seal_app, cut_at (msg_no' h)]
theorem cutlib_len {s sep : List UInt8} : (Lib.cut s sep).1.length ≤ s.length := by
  unfold Lib.cut
  split
  · simp only [List.length_take]; omega
  · exact Nat.le_refl _
/-! What the reference reads -/
def readM (ws : List (List UInt8)) : Report := ⟨(readR (nth ws 1)).1, (readR ((nth ws 3).take ((nth ws 3).length - 1))).1, idx3 wordsL (nth ws 4), (readR (nth ws 7)).1, (readR (nth ws 9)).1, (readR (nth ws 11)).1⟩
def headT (s : List UInt8) : List UInt8 := nth (cutS 35 [] s) 0
/-- The seal is right: the text and whether it is. -/
def verS (s : List UInt8) : List UInt8 × Bool := if s.length ≤ 4000 ∧ sealT (headT s) = s then (headT s, true) else ([], false)
def parseM (s : List UInt8) : Report × Bool :=
  if (verS s).2 = true ∧ (cutS 32 [] (verS s).1).length = 12 ∧ 2 ≤ (nth (cutS 32 [] (verS s).1) 3).length ∧ oneR (readM (cutS 32 [] (verS s).1)) = true ∧ sealT (msgT (readM (cutS 32 [] (verS s).1))) = s then (readM (cutS 32 [] (verS s).1), true) else (default, false)
theorem one_small {r : Report} (h : oneR r = true) : (0 ≤ r.vessel ∧ r.vessel ≤ 999999) ∧ (0 ≤ r.number ∧ r.number ≤ 999999) ∧ (r.kind = 1 ∨ r.kind = 2 ∨ r.kind = 3) ∧ (0 ≤ r.place ∧ r.place ≤ 999999) ∧ (0 ≤ r.minute ∧ r.minute ≤ 999999) ∧ (0 ≤ r.cones ∧ r.cones ≤ 999999) := by
  obtain ⟨h1, h2, h3, h4, h5, h6⟩ := one_bnd h
  refine ⟨h1, h2, by omega, h4, h5, by omega⟩
theorem verS_msg {r : Report} (h : oneR r = true) : verS (sealT (msgT r)) = (msgT r, true) := by
  have h1 := msg_len h
  have h2 := seal_len (l := msgT r)
  unfold verS headT
  rw [head_seal h, if_pos ⟨by omega, rfl⟩]
theorem read_at {n : Int} (h0 : 0 ≤ n) (h1 : n ≤ 999999) : readR (dec n) = (n, true) := by
  have := readR_itoa (n := n) (by omega) (by omega)
  rwa [itoa_pos h0] at this
theorem cut_id {n : Int} : (dec n ++ [58]).take ((dec n ++ [58]).length - 1) = dec n := by
  rw [List.length_append]
  exact List.take_left' (by simp)
theorem idx_kind {k : Int} (h : k = 1 ∨ k = 2 ∨ k = 3) : idx3 wordsL (nth wordsL k.toNat) = k := by
  rcases h with rfl | rfl | rfl <;> rfl
theorem readM_msg {r : Report} (h : oneR r = true) : readM (cutS 32 [] (msgT r)) = r := by
  obtain ⟨⟨a1, a2⟩, ⟨b1, b2⟩, hk, ⟨d1, d2⟩, ⟨e1, e2⟩, ⟨f1, f2⟩⟩ := one_small h
  rw [msg_words h]
  show Report.mk (readR (dec r.vessel)).1 (readR ((dec r.number ++ [58]).take ((dec r.number ++ [58]).length - 1))).1 (idx3 wordsL (nth wordsL r.kind.toNat)) (readR (dec r.place)).1 (readR (dec r.minute)).1 (readR (dec r.cones)).1 = r
  rw [cut_id, read_at a1 a2, read_at b1 b2, read_at d1 d2, read_at e1 e2, read_at f1 f2, idx_kind hk]
/-- A valid report is what its message is parsed as. -/
theorem parseM_back {r : Report} (h : oneR r = true) : parseM (sealT (msgT r)) = (r, true) := by
  have h3 : 2 ≤ (dec r.number ++ [58]).length := by
    have := dec_pos r.number.toNat
    rw [List.length_append]
    show 2 ≤ (Lib.decDigits r.number.toNat).length + 1
    omega
  unfold parseM
  rw [verS_msg h]
  simp only
  rw [readM_msg h, if_pos ⟨by trivial, by rw [msg_words h]; rfl, by rw [msg_words h]; exact h3, h, rfl⟩]
theorem parseM_no {s : List UInt8} (h : ∀ r, oneR r = true → sealT (msgT r) ≠ s) : parseM s = (default, false) := by
  unfold parseM
  rw [if_neg (fun hh => h _ hh.2.2.2.1 hh.2.2.2.2)]
theorem parseM_yes {s : List UInt8} {r : Report} (ho : oneR r = true) (h : sealT (msgT r) = s) : parseM s = (r, true) := by rw [← h]; exact parseM_back ho
/-! What the program reads -/
/-- A text with its checksum. -/
def appC (t : List UInt8) : List UInt8 × Bool := if 4000 < t.length ∨ t.contains 35 = true then ([], false) else if 4000 < (sealT t).length then ([], false) else (sealT t, true)
def verI (s : List UInt8) : List UInt8 × Bool := if (Lib.cut s [35]).2.2 = true then (if (appC (Lib.cut s [35]).1).2 = true ∧ (appC (Lib.cut s [35]).1).1 = s then ((Lib.cut s [35]).1, true) else ([], false)) else ([], false)
theorem verI_len {s : List UInt8} : (verI s).1.length ≤ s.length := by
  have := cutlib_len (s := s) (sep := [35])
  unfold verI
  split
  · split
    · exact this
    · simp
  · simp
theorem appC_msg {r : Report} (h : oneR r = true) : appC (msgT r) = (sealT (msgT r), true) := by
  have h1 := msg_len h
  have h2 := seal_len (l := msgT r)
  unfold appC
  rw [if_neg (by rw [msg_no h]; simp; omega), if_neg (by omega)]
theorem verI_msg {r : Report} (h : oneR r = true) : verI (sealT (msgT r)) = (msgT r, true) := by
  unfold verI
  rw [cut_seal h]
  simp [appC_msg h]
def wordsV (s : List UInt8) : List (List UInt8) := cutS 32 [] (Lib.replace (verI s).1 [58] [] 1)
def idxW (ls : List (List UInt8)) (x : List UInt8) : Int := match firstTo ls.length (fun i => x == nth ls i) with | some i => (i : Int) | none => -1
theorem idxW_kind {k : Int} (h : k = 1 ∨ k = 2 ∨ k = 3) : idxW wordsL (nth wordsL k.toNat) = k := by
  rcases h with rfl | rfl | rfl <;> rfl
def numV (s : List UInt8) : List Int := numsL (wordsV s) [1, 3, 7, 9, 11]
def msgI (s : List UInt8) : Report := ⟨nth (numV s) 0, nth (numV s) 1, idxW wordsL (nth (wordsV s) 4), nth (numV s) 2, nth (numV s) 3, nth (numV s) 4⟩
theorem nums_five {ws : List (List UInt8)} {p0 p1 p2 p3 p4 v0 v1 v2 v3 v4 : Int} (h0 : p0 < ws.length) (h1 : p1 < ws.length) (h2 : p2 < ws.length) (h3 : p3 < ws.length) (h4 : p4 < ws.length) (r0 : readR (nth ws p0.toNat) = (v0, true)) (r1 : readR (nth ws p1.toNat) = (v1, true)) (r2 : readR (nth ws p2.toNat) = (v2, true)) (r3 : readR (nth ws p3.toNat) = (v3, true)) (r4 : readR (nth ws p4.toNat) = (v4, true)) :
    numsTo ws [p0, p1, p2, p3, p4] 5 = some [v0, v1, v2, v3, v4] := by
  have e : ∀ a b c d e : Int, nth [a, b, c, d, e] 0 = a ∧ nth [a, b, c, d, e] 1 = b ∧ nth [a, b, c, d, e] 2 = c ∧ nth [a, b, c, d, e] 3 = d ∧ nth [a, b, c, d, e] 4 = e := fun a b c d e => ⟨rfl, rfl, rfl, rfl, rfl⟩
  obtain ⟨e0, e1, e2, e3, e4⟩ := e p0 p1 p2 p3 p4
  have n0 := Int.not_le.2 h0
  have n1 := Int.not_le.2 h1
  have n2 := Int.not_le.2 h2
  have n3 := Int.not_le.2 h3
  have n4 := Int.not_le.2 h4
  simp [numsTo, e0, e1, e2, e3, e4, r0, r1, r2, r3, r4, n0, n1, n2, n3, n4]
/-- What is seen of a valid report's message. -/
structure SeesM (s : List UInt8) (r : Report) : Prop where
  ver : verI s = (msgT r, true)
  nums : numsB (wordsV s) [1, 3, 7, 9, 11] = true
  msg : msgI s = r
theorem sees {r : Report} (h : oneR r = true) : SeesM (sealT (msgT r)) r := by
  obtain ⟨⟨a1, a2⟩, ⟨b1, b2⟩, hk, ⟨d1, d2⟩, ⟨e1, e2⟩, ⟨f1, f2⟩⟩ := one_small h
  have hw : wordsV (sealT (msgT r)) = [[118, 101, 115, 115, 101, 108], (dec r.vessel), [114, 101, 112, 111, 114, 116], (dec r.number), (nth wordsL r.kind.toNat), [97, 116], [107, 109], (dec r.place), [109, 105, 110, 117, 116, 101], (dec r.minute), [99, 111, 110, 101, 115], (dec r.cones)] := by unfold wordsV; rw [verI_msg h, replace_msg, msgR_words h]
  have hn : numsTo (wordsV (sealT (msgT r))) [1, 3, 7, 9, 11] 5 = some [r.vessel, r.number, r.place, r.minute, r.cones] := by
    rw [hw]
    exact nums_five (by simp) (by simp) (by simp) (by simp) (by simp) (read_at a1 a2) (read_at b1 b2) (read_at d1 d2) (read_at e1 e2) (read_at f1 f2)
  have hl : numV (sealT (msgT r)) = [r.vessel, r.number, r.place, r.minute, r.cones] := by
    unfold numV numsL
    rw [show ([1, 3, 7, 9, 11] : List Int).length = 5 from rfl, hn]
    rfl
  refine ⟨verI_msg h, ?_, ?_⟩
  · unfold numsB
    rw [show ([1, 3, 7, 9, 11] : List Int).length = 5 from rfl, hn]
    rfl
  · unfold msgI
    rw [hl, hw]
    show Report.mk r.vessel r.number (idxW wordsL (nth wordsL r.kind.toNat)) r.place r.minute r.cones = r
    rw [idxW_kind hk]
theorem nums_yes {ws : List (List UInt8)} (h : numsB ws [1, 3, 7, 9, 11] = true) : (numsL ws [1, 3, 7, 9, 11]).length = 5 ∧ 11 < ws.length := by
  unfold numsB at h
  unfold numsL
  obtain ⟨o, ho⟩ := Option.isSome_iff_exists.1 h
  rw [ho]
  have := numsTo_far (n := 5) (i := 4) ho (by decide)
  have e : nth ([1, 3, 7, 9, 11] : List Int) 4 = 11 := rfl
  exact ⟨numsTo_len ho, by omega⟩
theorem first_no {s : List UInt8} (h : (!(verI s).2 || !numsB (wordsV s) [1, 3, 7, 9, 11]) = true) : parseM s = (default, false) := parseM_no fun r ho hs => by
  subst hs
  have S := sees ho
  rw [S.ver, S.nums] at h
  cases h
theorem last_no {s : List UInt8} (h : (!oneR (msgI s) || !(sealT (msgT (msgI s)) == s)) = true) : parseM s = (default, false) := parseM_no fun r ho hs => by
  subst hs
  have S := sees ho
  rw [S.msg, ho] at h
  simp at h
theorem last_yes {s : List UInt8} {r : Report} (hc : (!oneR r || !(sealT (msgT r) == s)) = false) : parseM s = (r, true) := by
  simp only [Bool.or_eq_false_iff, Bool.not_eq_false', beq_iff_eq] at hc
  exact parseM_yes hc.1 hc.2
theorem retMB_eq {a b : Report} {x y : Bool} (h : (b, y) = (a, x)) : Ending.returned (single [.agg a.enc.toArray, .bool x]) = .returned (.tuple #[.agg b.enc.toArray, .bool y]) := by
  rw [Prod.mk.injEq] at h
  rw [h.1, h.2]
  rfl
theorem retSB_eq {a b : List UInt8} {x y : Bool} (h : (b, y) = (a, x)) : Ending.returned (single [strV a, .bool x]) = .returned (.tuple #[strV b, .bool y]) := by
  rw [Prod.mk.injEq] at h
  rw [h.1, h.2]
  rfl
end Go.Proofs.YtlpgcbkialcjcaaGreatDoor
