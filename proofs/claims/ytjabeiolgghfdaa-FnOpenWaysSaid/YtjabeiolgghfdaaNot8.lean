/- Notices: the open stretches, in plain Lean. Conditions: none. -/
import Derived.Test.YtjabeiolgghfdaaNot7
namespace Go.Proofs.Ytjabeiolgghfdaa
open Go.RowKit
set_option maxRecDepth 100000
/-- Where the last stretch ends. -/
def lastEnd (s : List (List Int)) : Int := nth (nth s (s.length - 1)) 1
/-- Does the place k lengthen the last stretch? -/
def longer (s : List (List Int)) (k : Nat) : Bool := decide (0 < s.length) && decide (lastEnd s = (k : Int) - 1)
/-- The stretches of the first places that are open. -/
def strTo (op : Nat → Bool) : Nat → List (List Int)
  | 0 => []
  | k + 1 => if op k = true then (if longer (strTo op k) k = true then (strTo op k).set ((strTo op k).length - 1) [nth (nth (strTo op k) ((strTo op k).length - 1)) 0, (k : Int)] else strTo op k ++ [[(k : Int), (k : Int)]]) else strTo op k
theorem strTo_two {op : Nat → Bool} : ∀ {k : Nat}, ∀ x ∈ strTo op k, x.length = 2
  | 0, x, h => by simp [strTo] at h
  | k + 1, x, h => by
    rw [strTo] at h
    split at h
    · split at h
      · rcases List.mem_or_eq_of_mem_set h with h | h
        · exact strTo_two x h
        · rw [h]; rfl
      · rcases List.mem_append.1 h with h | h
        · exact strTo_two x h
        · rw [List.mem_singleton] at h
          rw [h]; rfl
    · exact strTo_two x h
theorem strTo_len {op : Nat → Bool} : ∀ {k : Nat}, (strTo op k).length ≤ k
  | 0 => by simp [strTo]
  | k + 1 => by
    have ih := strTo_len (op := op) (k := k)
    rw [strTo]
    split
    · split
      · simp; omega
      · simp; omega
    · omega
theorem strTo_no {op : Nat → Bool} {k : Nat} (h : op k = false) : strTo op (k + 1) = strTo op k := by rw [strTo, if_neg (by rw [h]; simp)]
theorem strTo_new {op : Nat → Bool} {k : Nat} (h : op k = true) (h2 : longer (strTo op k) k = false) : strTo op (k + 1) = strTo op k ++ [[(k : Int), (k : Int)]] := by rw [strTo, if_pos h, if_neg (by rw [h2]; simp)]
theorem strTo_more {op : Nat → Bool} {k : Nat} (h : op k = true) (h2 : longer (strTo op k) k = true) : strTo op (k + 1) = (strTo op k).set ((strTo op k).length - 1) [nth (nth (strTo op k) ((strTo op k).length - 1)) 0, (k : Int)] := by rw [strTo, if_pos h, if_pos h2]
/-- A pair whose second number is another. -/
theorem two_set {l : List Int} {x : Int} (h : l.length = 2) : l.set 1 x = [nth l 0, x] := by
  match l, h with
  | [a, b], _ => rfl
end Go.Proofs.Ytjabeiolgghfdaa
