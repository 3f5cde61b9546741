/- A text's parts, by recursion over its bytes. Conditions: none. -/
import Derived.Test.YtlpgcbkialcjcaaGreatDoorZrF
namespace Go.Proofs.YtlpgcbkialcjcaaGreatDoor
open Go.RowKit
set_option maxRecDepth 100000
/-- The parts between bytes b, the first one under way. -/
def cutS (b : UInt8) : List UInt8 → List UInt8 → List (List UInt8)
  | acc, [] => [acc]
  | acc, x :: l => if x = b then acc :: cutS b [] l else cutS b (acc ++ [x]) l
theorem cutS_none {b : UInt8} : ∀ {a acc : List UInt8}, b ∉ a → cutS b acc a = [acc ++ a]
  | [], acc, _ => by simp [cutS]
  | x :: a, acc, h => by
    simp only [List.mem_cons, not_or] at h
    rw [cutS, if_neg (fun e => h.1 e.symm), cutS_none h.2]
    simp
theorem cutS_at {b : UInt8} {r : List UInt8} : ∀ {a acc : List UInt8}, b ∉ a → cutS b acc (a ++ b :: r) = (acc ++ a) :: cutS b [] r
  | [], acc, _ => by simp [cutS]
  | x :: a, acc, h => by
    simp only [List.mem_cons, not_or] at h
    rw [List.cons_append, cutS, if_neg (fun e => h.1 e.symm), cutS_at h.2]
    simp
theorem drop_nth {l : List UInt8} {k : Nat} (h : k < l.length) : l.drop k = nth l k :: l.drop (k + 1) := by
  have h1 := nth_get h
  rw [List.getElem?_eq_getElem h, Option.some.injEq] at h1
  rw [List.drop_eq_getElem_cons h, h1]
theorem take_more {l : List UInt8} {f k : Nat} (hf : f ≤ k) (h : k < l.length) : (l.drop f).take (k + 1 - f) = (l.drop f).take (k - f) ++ [nth l k] := by
  have h1 := nth_get h
  rw [show k + 1 - f = (k - f) + 1 by omega, List.take_add_one, List.getElem?_drop, show f + (k - f) = k by omega, h1]
  rfl
theorem parts_cut {l : List UInt8} {b : UInt8} : ∀ {k : Nat}, k ≤ l.length → (partsTo l b k).2 ++ cutS b ((l.drop (partsTo l b k).1).take (k - (partsTo l b k).1)) (l.drop k) = cutS b [] l
  | 0, _ => by simp [partsTo]
  | k + 1, h => by
    have ih := parts_cut (l := l) (b := b) (k := k) (by omega)
    have hle := (partsTo_le (l := l) (b := b) (k := k)).1
    rw [← ih, drop_nth (by omega : k < l.length), cutS, partsTo]
    split
    · rename_i hc
      simp
    · rename_i hc
      rw [take_more hle (by omega)]
theorem partsOf_cut {l : List UInt8} {b : UInt8} : partsOf l b = cutS b [] l := by
  rw [← parts_cut (l := l) (b := b) (Nat.le_refl _), List.drop_length, cutS]
  unfold partsOf
  rw [List.take_of_length_le (by rw [List.length_drop]; omega)]
end Go.Proofs.YtlpgcbkialcjcaaGreatDoor
