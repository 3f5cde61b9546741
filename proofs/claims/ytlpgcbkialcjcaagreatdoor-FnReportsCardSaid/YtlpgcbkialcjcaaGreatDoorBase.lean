/- Small facts: ranges, what a call hands back. Conditions: none. -/
import Derived.Test.YtlpgcbkialcjcaaGreatDoorSy
namespace Go.Proofs.YtlpgcbkialcjcaaGreatDoor
open Go.RowKit

/-- A number is in a range. -/
def inB (n lo hi : Int) : Bool := decide (lo ≤ n) && decide (n ≤ hi)
theorem inB_iff {n lo hi : Int} : inB n lo hi = true ↔ lo ≤ n ∧ n ≤ hi := by simp [inB]
theorem inB_false {n lo hi : Int} : inB n lo hi = false ↔ ¬ (lo ≤ n ∧ n ≤ hi) := by rw [← inB_iff]; simp

theorem retB_eq {a b : Bool} (h : a = b) : Ending.returned (single [.bool a]) = .returned (.bool b) := by rw [h]; rfl
theorem retI_eq {k : IntKind} {a b : Int} (h : a = b) : Ending.returned (single [.int k a]) = .returned (.int k b) := by rw [h]; rfl
theorem retBB_eq {a b a' b' : Bool} (h : a = a') (h' : b = b') : Ending.returned (single [.bool a, .bool b]) = .returned (.tuple #[.bool a', .bool b']) := by rw [h, h']; rfl
theorem retIB_eq {k : IntKind} {a a' : Int} {b b' : Bool} (h : a = a') (h' : b = b') : Ending.returned (single [.int k a, .bool b]) = .returned (.tuple #[.int k a', .bool b']) := by rw [h, h']; rfl

/-- All of the first n numbers. -/
def allTo (n : Nat) (p : Nat → Bool) : Bool := (List.range n).all p
theorem allTo_iff {n : Nat} {p : Nat → Bool} : allTo n p = true ↔ ∀ i, i < n → p i = true := by simp [allTo]
theorem allTo_false {n : Nat} {p : Nat → Bool} {i : Nat} (h : i < n) (hp : p i = false) : allTo n p = false := by
  rw [← Bool.not_eq_true, allTo_iff]
  intro hh
  have := hh i h
  rw [hp] at this
  cases this
theorem all_succ {p : Nat → Prop} {k : Nat} (h : ∀ i, i < k → p i) (hk : p k) : ∀ i, i < k + 1 → p i := fun i hi => by
  rcases Nat.lt_or_ge i k with h1 | h1
  · exact h i h1
  · have : i = k := by omega
    rw [this]; exact hk
theorem nth_set_self {α : Type} [Inhabited α] {l : List α} {k : Nat} {x : α} (h : k < l.length) : nth (l.set k x) k = x := by simp [nth, h]
theorem nth_set_ne {α : Type} [Inhabited α] {l : List α} {k i : Nat} {x : α} (h : k ≠ i) : nth (l.set k x) i = nth l i := by simp [nth, List.getElem?_set_ne h]
theorem eq_of_nth {α : Type} [Inhabited α] {o l : List α} (hl : o.length = l.length) (h : ∀ i, i < l.length → nth o i = nth l i) : o = l := by
  apply List.ext_getElem?
  intro i
  by_cases hi : i < l.length
  · rw [nth_get hi, nth_get (by omega), h i hi]
  · rw [List.getElem?_eq_none (by omega), List.getElem?_eq_none (by omega)]
theorem Sl.lenle {w : World} {sz : Nat} {A : Option Addr} {m c : Nat} {xs : List Value} (h : Sl w sz A m c xs) : m ≤ 9223372036854775807 := by
  have h1 := h.cap
  have h2 := h.max
  simp only [maxLen] at h2
  omega
/-- The first of n numbers that fits. -/
def firstTo (n : Nat) (p : Nat → Bool) : Option Nat := (List.range n).find? p
theorem firstTo_succ {n : Nat} {p : Nat → Bool} : firstTo (n + 1) p = (firstTo n p).or (if p n = true then some n else none) := by
  simp only [firstTo, List.range_succ, List.find?_append]
  cases h : p n <;> simp [h]
theorem firstTo_none {n : Nat} {p : Nat → Bool} (h : ∀ i, i < n → p i = false) : firstTo n p = none := by
  simp only [firstTo, List.find?_eq_none, List.mem_range]
  intro x hx
  rw [h x hx]; simp
theorem firstTo_some {n k : Nat} {p : Nat → Bool} (hk : k < n) (hp : p k = true) (h : ∀ i, i < k → p i = false) : firstTo n p = some k := by
  induction n with
  | zero => omega
  | succ n ih =>
    rw [firstTo_succ]
    rcases Nat.lt_or_ge k n with h1 | h1
    · rw [ih h1]; rfl
    · obtain rfl : k = n := by omega
      rw [firstTo_none h, if_pos hp]; rfl
theorem exists_first {n : Nat} {p : Nat → Bool} (h : ¬ ∀ i, i < n → p i = true) : ∃ k, k < n ∧ p k = false ∧ ∀ i, i < k → p i = true := by
  induction n with
  | zero => exact absurd (fun i hi => absurd hi (Nat.not_lt_zero _)) h
  | succ n ih =>
    by_cases hn : ∀ i, i < n → p i = true
    · refine ⟨n, by omega, ?_, hn⟩
      by_cases hp : p n = true
      · exact absurd (all_succ hn hp) h
      · simpa using hp
    · obtain ⟨k, hk, h1, h2⟩ := ih hn
      exact ⟨k, by omega, h1, h2⟩
end Go.Proofs.YtlpgcbkialcjcaaGreatDoor
