/- Numbers are read back out of their texts. Conditions: none. -/
import Derived.Test.YtlpgcbkialcjcaaGreatDoorZrE
namespace Go.Proofs.YtlpgcbkialcjcaaGreatDoor
open Go.RowKit
set_option maxRecDepth 100000
theorem nth_l {a b : List UInt8} {k : Nat} (h : k < a.length) : nth (a ++ b) k = nth a k := by
  rw [nth, nth, List.getD_eq_getElem?_getD, List.getD_eq_getElem?_getD, List.getElem?_append_left h]
theorem nth_last {a : List UInt8} {x : UInt8} : nth (a ++ [x]) a.length = x := by simp [nth]
theorem valTo_app {a b : List UInt8} : ∀ {k : Nat}, k ≤ a.length → valTo (a ++ b) k = valTo a k
  | 0, _ => rfl
  | k + 1, h => by rw [valTo, valTo, valTo_app (by omega), nth_l (by omega)]
theorem dig_one : ∀ k : Nat, k < 10 → digB [UInt8.ofNat (48 + k)] 0 = true ∧ ((UInt8.ofNat (48 + k)).toNat : Int) - 48 = (k : Int) := by decide
theorem digB_app {a b : List UInt8} {k : Nat} (h : k < a.length) : digB (a ++ b) k = digB a k := by unfold digB; rw [nth_l h]
theorem digB_last {a : List UInt8} {x : UInt8} : digB (a ++ [x]) a.length = digB [x] 0 := by
  unfold digB
  rw [nth_last]
  rfl
theorem dec_val (n : Nat) : valTo (Lib.decDigits n) (Lib.decDigits n).length = (n : Int) ∧ ∀ k, k < (Lib.decDigits n).length → digB (Lib.decDigits n) k = true := by
  induction n using Nat.strongRecOn with
  | _ n ih =>
    rw [Lib.decDigits]
    split
    · rename_i h
      have h1 := dig_one n h
      refine ⟨?_, fun k hk => ?_⟩
      · show 10 * 0 + (((UInt8.ofNat (48 + n)).toNat : Int) - 48) = (n : Int)
        omega
      · obtain rfl : k = 0 := by simp at hk; omega
        exact h1.1
    · rename_i h
      obtain ⟨h1, h2⟩ := ih (n / 10) (by omega)
      have h3 := dig_one (n % 10) (by omega)
      have hl : (Lib.decDigits (n / 10) ++ [UInt8.ofNat (48 + n % 10)]).length = (Lib.decDigits (n / 10)).length + 1 := by simp
      refine ⟨?_, fun k hk => ?_⟩
      · rw [hl, valTo, valTo_app (Nat.le_refl _), h1, nth_last]
        omega
      · rw [hl] at hk
        rcases Nat.lt_or_ge k (Lib.decDigits (n / 10)).length with h4 | h4
        · rw [digB_app h4]
          exact h2 k h4
        · obtain rfl : k = (Lib.decDigits (n / 10)).length := by omega
          rw [digB_last]
          exact h3.1
theorem dec_pos (n : Nat) : 1 ≤ (Lib.decDigits n).length := by
  rw [Lib.decDigits]
  split <;> simp
theorem dec_head (n : Nat) : nth (Lib.decDigits n) 0 ≠ 45 := fun h => by
  have h1 := (dec_val n).2 0 (dec_pos n)
  unfold digB at h1
  rw [h] at h1
  simp at h1
/-- A number's text is read as the number. -/
theorem readR_itoa {n : Int} (h0 : -999999 ≤ n) (h1 : n ≤ 999999) : readR (Lib.itoa n) = (n, true) := by
  rcases Int.lt_or_le n 0 with h | h
  · obtain ⟨v1, v2⟩ := dec_val (-n).toNat
    have hl := dig_len 5 (n := (-n).toNat) (by omega)
    have hp := dec_pos (-n).toNat
    have hi := itoa_neg h
    have ht : tailOf (Lib.itoa n) = dec (-n) := by
      rw [hi]
      exact tail_yes ⟨by rw [List.length_cons]; show 1 < (Lib.decDigits (-n).toNat).length + 1; omega, rfl⟩
    have hs : signed (Lib.itoa n) (dec (-n)) = n := by
      unfold signed
      rw [if_pos (by rw [hi]; simp), v1]
      omega
    rw [readR_yes ht ⟨hp, hl, v2, by rw [hs]⟩, hs]
  · obtain ⟨v1, v2⟩ := dec_val n.toNat
    have hl := dig_len 5 (n := n.toNat) (by omega)
    have hp := dec_pos n.toNat
    have hi := itoa_pos h
    have ht : tailOf (Lib.itoa n) = dec n := by
      rw [hi]
      exact tail_no (fun hh => dec_head _ hh.2)
    have hs : signed (Lib.itoa n) (dec n) = n := by
      unfold signed
      rw [if_neg (by rw [hi]; omega), v1]
      omega
    rw [readR_yes ht ⟨hp, hl, v2, by rw [hs]⟩, hs]
/-- What is read as a number is the number's text. -/
theorem readR_only {s : List UInt8} {n : Int} (h : readR s = (n, true)) : Lib.itoa n = s := by
  unfold readR at h
  split at h
  · rename_i hc
    rw [Prod.mk.injEq] at h
    rw [← h.1]
    exact hc.2.2.2
  · simp at h
end Go.Proofs.YtlpgcbkialcjcaaGreatDoor
