/- The words of a notice's text. Conditions: none. -/
import Derived.Test.YtjabeiolgghfdaaGreatDoorZnJ
namespace Go.Proofs.YtjabeiolgghfdaaGreatDoor
open Go.RowKit
set_option maxRecDepth 100000
theorem dec_no {n : Nat} {c : UInt8} (hc : c.toNat < 48 ∨ 57 < c.toNat) : c ∉ Lib.decDigits n := by
  induction n using Nat.strongRecOn with
  | _ n ih =>
    rw [Lib.decDigits]
    have hd : ∀ k : Nat, k < 10 → c ∉ [UInt8.ofNat (48 + k)] := fun k hk h => by
      rw [List.mem_singleton] at h
      have h2 := (dig_one k hk).2
      rw [← h] at h2
      omega
    split
    · exact hd n (by omega)
    · intro h
      rcases List.mem_append.1 h with h | h
      · exact ih (n / 10) (by omega) h
      · exact hd (n % 10) (by omega) h
theorem dec_noc {n : Nat} : (32 : UInt8) ∉ Lib.decDigits n ++ [58] := fun h => by
  rcases List.mem_append.1 h with h | h
  · exact dec_no (.inl (by decide)) h
  · exact absurd h (by decide)
theorem cut_cons {a r : List UInt8} (h : (32 : UInt8) ∉ a) : cutS 32 [] (a ++ 32 :: r) = a :: cutS 32 [] r := by
  have := cutS_at (b := 32) (r := r) (acc := []) h
  simpa using this
theorem cut_last {a : List UInt8} (h : (32 : UInt8) ∉ a) : cutS 32 [] a = [a] := by
  have := cutS_none (b := 32) (acc := []) h
  simpa using this
theorem note_words1 {n : Notice} (hk : n.kind = 1) : cutS 32 [] (noteT n) = [[110, 111, 116, 105, 99, 101], (dec n.id ++ [58]), [99, 108, 111, 115, 101, 100], [102, 114, 111, 109], [107, 109], (dec n.start), [116, 111], [107, 109], (dec n.stop), [111, 110], [100, 97, 121, 115], (dec n.first), [116, 111], (dec n.last)] := by
  have e : noteT n = [110, 111, 116, 105, 99, 101] ++ 32 :: ((dec n.id ++ [58]) ++ 32 :: ([99, 108, 111, 115, 101, 100] ++ 32 :: ([102, 114, 111, 109] ++ 32 :: ([107, 109] ++ 32 :: ((dec n.start) ++ 32 :: ([116, 111] ++ 32 :: ([107, 109] ++ 32 :: ((dec n.stop) ++ 32 :: ([111, 110] ++ 32 :: ([100, 97, 121, 115] ++ 32 :: ((dec n.first) ++ 32 :: ([116, 111] ++ 32 :: ((dec n.last)))))))))))))) := by
    unfold noteT kindT
    rw [if_pos hk]
    simp only [List.append_assoc, List.cons_append, List.nil_append]
  rw [e, cut_cons (by decide), cut_cons dec_noc, cut_cons (by decide), cut_cons (by decide), cut_cons (by decide), cut_cons (dec_no (.inl (by decide))), cut_cons (by decide), cut_cons (by decide), cut_cons (dec_no (.inl (by decide))), cut_cons (by decide), cut_cons (by decide), cut_cons (dec_no (.inl (by decide))), cut_cons (by decide), cut_last (dec_no (.inl (by decide)))]
theorem note_words2 {n : Notice} (hk : n.kind = 2) : cutS 32 [] (noteT n) = [[110, 111, 116, 105, 99, 101], (dec n.id ++ [58]), [100, 101, 112, 116, 104], (dec n.value), [99, 109], [102, 114, 111, 109], [107, 109], (dec n.start), [116, 111], [107, 109], (dec n.stop), [111, 110], [100, 97, 121, 115], (dec n.first), [116, 111], (dec n.last)] := by
  have e : noteT n = [110, 111, 116, 105, 99, 101] ++ 32 :: ((dec n.id ++ [58]) ++ 32 :: ([100, 101, 112, 116, 104] ++ 32 :: ((dec n.value) ++ 32 :: ([99, 109] ++ 32 :: ([102, 114, 111, 109] ++ 32 :: ([107, 109] ++ 32 :: ((dec n.start) ++ 32 :: ([116, 111] ++ 32 :: ([107, 109] ++ 32 :: ((dec n.stop) ++ 32 :: ([111, 110] ++ 32 :: ([100, 97, 121, 115] ++ 32 :: ((dec n.first) ++ 32 :: ([116, 111] ++ 32 :: ((dec n.last)))))))))))))))) := by
    unfold noteT kindT
    rw [if_neg (by omega), if_pos hk]
    simp only [List.append_assoc, List.cons_append, List.nil_append]
  rw [e, cut_cons (by decide), cut_cons dec_noc, cut_cons (by decide), cut_cons (dec_no (.inl (by decide))), cut_cons (by decide), cut_cons (by decide), cut_cons (by decide), cut_cons (dec_no (.inl (by decide))), cut_cons (by decide), cut_cons (by decide), cut_cons (dec_no (.inl (by decide))), cut_cons (by decide), cut_cons (by decide), cut_cons (dec_no (.inl (by decide))), cut_cons (by decide), cut_last (dec_no (.inl (by decide)))]
theorem note_words3 {n : Notice} (h1 : n.kind ≠ 1) (h2 : n.kind ≠ 2) : cutS 32 [] (noteT n) = [[110, 111, 116, 105, 99, 101], (dec n.id ++ [58]), [115, 112, 101, 101, 100], (dec n.value), [107, 109, 47, 104], [102, 114, 111, 109], [107, 109], (dec n.start), [116, 111], [107, 109], (dec n.stop), [111, 110], [100, 97, 121, 115], (dec n.first), [116, 111], (dec n.last)] := by
  have e : noteT n = [110, 111, 116, 105, 99, 101] ++ 32 :: ((dec n.id ++ [58]) ++ 32 :: ([115, 112, 101, 101, 100] ++ 32 :: ((dec n.value) ++ 32 :: ([107, 109, 47, 104] ++ 32 :: ([102, 114, 111, 109] ++ 32 :: ([107, 109] ++ 32 :: ((dec n.start) ++ 32 :: ([116, 111] ++ 32 :: ([107, 109] ++ 32 :: ((dec n.stop) ++ 32 :: ([111, 110] ++ 32 :: ([100, 97, 121, 115] ++ 32 :: ((dec n.first) ++ 32 :: ([116, 111] ++ 32 :: ((dec n.last)))))))))))))))) := by
    unfold noteT kindT
    rw [if_neg h1, if_neg h2]
    simp only [List.append_assoc, List.cons_append, List.nil_append]
  rw [e, cut_cons (by decide), cut_cons dec_noc, cut_cons (by decide), cut_cons (dec_no (.inl (by decide))), cut_cons (by decide), cut_cons (by decide), cut_cons (by decide), cut_cons (dec_no (.inl (by decide))), cut_cons (by decide), cut_cons (by decide), cut_cons (dec_no (.inl (by decide))), cut_cons (by decide), cut_cons (by decide), cut_cons (dec_no (.inl (by decide))), cut_cons (by decide), cut_last (dec_no (.inl (by decide)))]
end Go.Proofs.YtjabeiolgghfdaaGreatDoor
