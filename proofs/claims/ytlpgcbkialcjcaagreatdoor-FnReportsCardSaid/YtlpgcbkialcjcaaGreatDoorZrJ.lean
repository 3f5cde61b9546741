/- The library's split at one byte is the recursion over the bytes. Conditions: none. -/
import Derived.Test.YtlpgcbkialcjcaaGreatDoorZrH
import Derived.Lib.Split
import Derived.Lib.IndexBytes
namespace Go.Proofs.YtlpgcbkialcjcaaGreatDoor
open Go.RowKit
set_option maxRecDepth 100000
theorem indexByte_at {c : UInt8} {r : List UInt8} : ∀ {a : List UInt8}, c ∉ a → Lib.indexByte (a ++ c :: r) c = (a.length : Int)
  | [], _ => by simp [Lib.indexByte]
  | x :: a, h => by
    simp only [List.mem_cons, not_or] at h
    have hx : (x == c) = false := by simpa using fun e : x = c => h.1 e.symm
    rw [List.cons_append, Lib.indexByte, indexByte_at h.2, if_neg (by rw [hx]; simp), if_neg (by simp)]
    simp
theorem indexByte_no {c : UInt8} : ∀ {a : List UInt8}, c ∉ a → Lib.indexByte a c = -1
  | [], _ => rfl
  | x :: a, h => by
    simp only [List.mem_cons, not_or] at h
    have hx : (x == c) = false := by simpa using fun e : x = c => h.1 e.symm
    rw [Lib.indexByte, indexByte_no h.2, if_neg (by rw [hx]; simp)]
    rfl
/-- The first place of a byte. -/
theorem parted {c : UInt8} : ∀ {s : List UInt8}, c ∈ s → ∃ a r, s = a ++ c :: r ∧ c ∉ a
  | x :: s, h => by
    by_cases hx : x = c
    · exact ⟨[], s, by rw [hx]; rfl, by simp⟩
    · have h2 : c ∈ s := by
        rcases List.mem_cons.1 h with h | h
        · exact absurd h.symm hx
        · exact h
      obtain ⟨a, r, e, hn⟩ := parted h2
      exact ⟨x :: a, r, by rw [e]; rfl, by simp only [List.mem_cons, not_or]; exact ⟨fun e => hx e.symm, hn⟩⟩
theorem splitK_cut {c : UInt8} : ∀ {k : Nat} {s : List UInt8}, s.count c ≤ k → Lib.splitK [c] 0 k s = cutS c [] s
  | 0, s, h => by
    have hn : c ∉ s := List.count_eq_zero.1 (by omega)
    rw [Lib.splitK, cutS_none hn]
    rfl
  | k + 1, s, h => by
    by_cases hc : c ∈ s
    · obtain ⟨a, r, rfl, hn⟩ := parted hc
      have hk : r.count c ≤ k := by
        rw [List.count_append, List.count_cons_self] at h
        omega
      rw [Lib.splitK, Lib.index_one, indexByte_at hn, if_neg (by simp), cutS_at hn, Nat.add_zero]
      have e1 : (a ++ c :: r).take ((a.length : Int).toNat) = a := List.take_left' (by simp)
      have e2 : (a ++ c :: r).drop ((a.length : Int).toNat + [c].length) = r := by
        rw [show (a.length : Int).toNat + [c].length = a.length + 1 by simp, List.drop_append]
        simp
      rw [e1, e2, splitK_cut hk]
      rfl
    · rw [Lib.splitK, Lib.index_one, indexByte_no hc, if_pos (by simp), cutS_none hc]
      rfl
end Go.Proofs.YtlpgcbkialcjcaaGreatDoor
