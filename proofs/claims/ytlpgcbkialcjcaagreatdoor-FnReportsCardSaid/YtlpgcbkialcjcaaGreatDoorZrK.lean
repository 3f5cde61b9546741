/- Words between blanks. Conditions: none. -/
import Derived.Test.YtlpgcbkialcjcaaGreatDoorZrJ
namespace Go.Proofs.YtlpgcbkialcjcaaGreatDoor
open Go.RowKit
set_option maxRecDepth 100000
theorem dec_noC {n : Nat} {c : UInt8} (hc : c.toNat < 48 ∨ 57 < c.toNat) : c ∉ Lib.decDigits n := by
  induction n using Nat.strongRecOn with
  | _ n ih =>
    rw [Lib.decDigits]
    have hd : ∀ k : Nat, k < 10 → c ∉ [UInt8.ofNat (48 + k)] := fun k hk h => by
      rw [List.mem_singleton] at h
      have h2 := (dig_one k hk).2
      rw [← h] at h2
      omega
    split
    · exact hd n (by omega)
    · intro h
      rcases List.mem_append.1 h with h | h
      · exact ih (n / 10) (by omega) h
      · exact hd (n % 10) (by omega) h
theorem dec_noc {n : Nat} : (32 : UInt8) ∉ Lib.decDigits n ++ [58] := fun h => by
  rcases List.mem_append.1 h with h | h
  · exact dec_noC (.inl (by decide)) h
  · exact absurd h (by decide)
theorem cut_cons {a r : List UInt8} (h : (32 : UInt8) ∉ a) : cutS 32 [] (a ++ 32 :: r) = a :: cutS 32 [] r := by
  have := cutS_at (b := 32) (r := r) (acc := []) h
  simpa using this
theorem cut_last {a : List UInt8} (h : (32 : UInt8) ∉ a) : cutS 32 [] a = [a] := by
  have := cutS_none (b := 32) (acc := []) h
  simpa using this
end Go.Proofs.YtlpgcbkialcjcaaGreatDoor
