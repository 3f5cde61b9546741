/- A notice is parsed back out of its text. Conditions: none. -/
import Derived.Test.YtjabeiolgghfdaaGreatDoorZnK
namespace Go.Proofs.YtjabeiolgghfdaaGreatDoor
open Go.RowKit
set_option maxRecDepth 100000
def kindW : List (List UInt8) := [[], [99, 108, 111, 115, 101, 100], [100, 101, 112, 116, 104], [115, 112, 101, 101, 100]]
/-- What the words say, k of them between the number and the place. -/
def readN (ws : List (List UInt8)) (k : Nat) : Notice := ⟨(readR ((nth ws 1).take ((nth ws 1).length - 1))).1, idx3 kindW (nth ws 2), (readR (nth ws (k + 2))).1, (readR (nth ws (k + 5))).1, (readR (nth ws (k + 8))).1, (readR (nth ws (k + 10))).1, if k = 5 then (readR (nth ws 3)).1 else 0⟩
/-- The notice that a text is parsed as. -/
def parseS (s : List UInt8) : Notice × Bool :=
  if s.length ≤ 90 ∧ ((cutS 32 [] s).length = 14 ∨ (cutS 32 [] s).length = 16) ∧ 2 ≤ (nth (cutS 32 [] s) 1).length ∧ noticeOk (readN (cutS 32 [] s) ((cutS 32 [] s).length - 11)) = true ∧ noteT (readN (cutS 32 [] s) ((cutS 32 [] s).length - 11)) = s then (readN (cutS 32 [] s) ((cutS 32 [] s).length - 11), true) else (default, false)
theorem read_dec {n : Int} (h0 : 0 ≤ n) (h1 : n ≤ 999999) : (readR (dec n)).1 = n := by
  have := readR_itoa (n := n) (by omega) h1
  rw [itoa_pos h0] at this
  rw [this]
theorem note_small {n : Notice} (h : noticeOk n = true) : (0 ≤ n.id ∧ n.id ≤ 999) ∧ (0 ≤ n.start ∧ n.start ≤ 999) ∧ (0 ≤ n.stop ∧ n.stop ≤ 999) ∧ (0 ≤ n.first ∧ n.first ≤ 999) ∧ (0 ≤ n.last ∧ n.last ≤ 999) ∧ (0 ≤ n.value ∧ n.value ≤ 999) ∧ (n.kind = 1 ∧ n.value = 0 ∨ n.kind = 2 ∨ n.kind = 3) := by
  simp only [noticeOk, nBase, nKind, Bool.and_eq_true, inB_iff] at h
  obtain ⟨h1, h2⟩ := h
  refine ⟨by omega, by omega, by omega, by omega, by omega, ?_⟩
  split at h2
  · rename_i hk
    simp at h2
    omega
  · split at h2
    · rw [inB_iff] at h2; omega
    · split at h2
      · rw [inB_iff] at h2; omega
      · cases h2
theorem three {n : Int} (h0 : 0 ≤ n) (h : n ≤ 999) : (dec n).length ≤ 3 := dig_len 2 (n := n.toNat) (by omega)
theorem note_len {n : Notice} (h : noticeOk n = true) : (noteT n).length ≤ 90 := by
  obtain ⟨⟨a1, a2⟩, ⟨b1, b2⟩, ⟨c1, c2⟩, ⟨d1, d2⟩, ⟨e1, e2⟩, ⟨f1, f2⟩, _⟩ := note_small h
  have l1 := three a1 a2
  have l2 := three b1 b2
  have l3 := three c1 c2
  have l4 := three d1 d2
  have l5 := three e1 e2
  have l6 := three f1 f2
  unfold noteT kindT
  split
  · simp only [List.length_append, List.length_cons, List.length_nil]; omega
  · split
    · simp only [List.length_append, List.length_cons, List.length_nil]; omega
    · simp only [List.length_append, List.length_cons, List.length_nil]; omega
theorem cut_id {n : Int} : (dec n ++ [58]).take ((dec n ++ [58]).length - 1) = dec n := by
  rw [List.length_append]
  exact List.take_left' (by simp)
theorem parse_of {s : List UInt8} {n : Notice} {ws : List (List UInt8)} (hw : cutS 32 [] s = ws) (hs : noteT n = s) (ho : noticeOk n = true) (hl : ws.length = 14 ∨ ws.length = 16) (h2 : 2 ≤ (nth ws 1).length) (hr : readN ws (ws.length - 11) = n) : parseS s = (n, true) := by
  unfold parseS
  rw [hw, hr, if_pos ⟨by rw [← hs]; exact note_len ho, hl, h2, ho, hs⟩]
/-- A valid notice is what its text is parsed as. -/
theorem parse_back {n : Notice} (ho : noticeOk n = true) : parseS (noteT n) = (n, true) := by
  obtain ⟨⟨a1, a2⟩, ⟨b1, b2⟩, ⟨c1, c2⟩, ⟨d1, d2⟩, ⟨e1, e2⟩, ⟨f1, f2⟩, hk⟩ := note_small ho
  have r1 := read_dec a1 (by omega)
  have r2 := read_dec b1 (by omega)
  have r3 := read_dec c1 (by omega)
  have r4 := read_dec d1 (by omega)
  have r5 := read_dec e1 (by omega)
  have r6 := read_dec f1 (by omega)
  have hp : 2 ≤ (dec n.id ++ [58]).length := by
    have := dec_pos n.id.toNat
    rw [List.length_append]
    show 2 ≤ (Lib.decDigits n.id.toNat).length + 1
    omega
  rcases hk with ⟨hk, hv⟩ | hk | hk
  · refine parse_of (note_words1 hk) rfl ho (.inl rfl) hp ?_
    show Notice.mk (readR ((dec n.id ++ [58]).take ((dec n.id ++ [58]).length - 1))).1 1 (readR (dec n.start)).1 (readR (dec n.stop)).1 (readR (dec n.first)).1 (readR (dec n.last)).1 0 = n
    rw [cut_id, r1, r2, r3, r4, r5, ← hk, ← hv]
  · refine parse_of (note_words2 hk) rfl ho (.inr rfl) hp ?_
    show Notice.mk (readR ((dec n.id ++ [58]).take ((dec n.id ++ [58]).length - 1))).1 2 (readR (dec n.start)).1 (readR (dec n.stop)).1 (readR (dec n.first)).1 (readR (dec n.last)).1 (readR (dec n.value)).1 = n
    rw [cut_id, r1, r2, r3, r4, r5, r6, ← hk]
  · refine parse_of (note_words3 (by omega) (by omega)) rfl ho (.inr rfl) hp ?_
    show Notice.mk (readR ((dec n.id ++ [58]).take ((dec n.id ++ [58]).length - 1))).1 3 (readR (dec n.start)).1 (readR (dec n.stop)).1 (readR (dec n.first)).1 (readR (dec n.last)).1 (readR (dec n.value)).1 = n
    rw [cut_id, r1, r2, r3, r4, r5, r6, ← hk]
end Go.Proofs.YtjabeiolgghfdaaGreatDoor
