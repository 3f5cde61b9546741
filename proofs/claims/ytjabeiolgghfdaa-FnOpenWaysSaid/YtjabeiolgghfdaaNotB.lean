/- Notices: a way is open exactly if it lies in one open stretch. Conditions: none. -/
import Derived.Test.YtjabeiolgghfdaaNot9
namespace Go.Proofs.Ytjabeiolgghfdaa
open Go.RowKit
set_option maxRecDepth 100000
theorem openDay_iff {ns : List Notice} {a b d : Int} : openDay ns a b d = true ↔ ∀ k, k < ns.length → closes a b d (nth ns k) = false := by
  unfold openDay
  rw [allTo_iff]
  exact ⟨fun h k hk => by simpa using h k hk, fun h k hk => by simp [h k hk]⟩
/-- A way is open exactly if each of its places is. -/
theorem openDay_all {ns : List Notice} {a b d : Int} (hw : ∀ k, k < ns.length → (nth ns k).start ≤ (nth ns k).stop) (h0 : 0 ≤ min a b) : openDay ns a b d = true ↔ ∀ k : Nat, min a b ≤ (k : Int) → (k : Int) ≤ max a b → openD ns d k = true := by
  rw [openDay_iff]
  constructor
  · intro h k h1 h2
    unfold openD
    rw [openDay_iff]
    intro i hi
    have h3 := h i hi
    simp only [closes, meets, inB, Bool.and_eq_false_iff, decide_eq_false_iff_not] at h3 ⊢
    omega
  · intro h i hi
    have hwi := hw i hi
    by_cases h1 : closes a b d (nth ns i) = true
    · exfalso
      simp only [closes, meets, inB, Bool.and_eq_true, decide_eq_true_eq] at h1
      have h2 := h (max (min a b) (nth ns i).start).toNat (by omega) (by omega)
      unfold openD at h2
      rw [openDay_iff] at h2
      have h3 := h2 i hi
      simp only [closes, meets, inB, Bool.and_eq_false_iff, decide_eq_false_iff_not] at h3
      omega
    · simpa using h1
/-- A stretch of the first places: its places are open. -/
structure Str (op : Nat → Bool) (K : Nat) (s : List (List Int)) : Prop where
  inn : ∀ i, i < s.length → 0 ≤ nth (nth s i) 0 ∧ nth (nth s i) 0 ≤ nth (nth s i) 1 ∧ nth (nth s i) 1 < (K : Int)
  opn : ∀ i, i < s.length → ∀ k : Nat, nth (nth s i) 0 ≤ (k : Int) → (k : Int) ≤ nth (nth s i) 1 → op k = true
  has : ∀ lo hi : Nat, lo ≤ hi → hi < K → (∀ k, lo ≤ k → k ≤ hi → op k = true) → ∃ i, i < s.length ∧ nth (nth s i) 0 ≤ (lo : Int) ∧ (hi : Int) ≤ nth (nth s i) 1
  lst : ∀ i, i + 1 < s.length → nth (nth s i) 1 < (K : Int) - 1
theorem nth_app1 {α : Type} [Inhabited α] {l : List α} {x : α} {i : Nat} (h : i < l.length) : nth (l ++ [x]) i = nth l i := by rw [nth, nth, List.getD_eq_getElem?_getD, List.getD_eq_getElem?_getD, List.getElem?_append_left h]
theorem nth_app2 {α : Type} [Inhabited α] {l : List α} {x : α} : nth (l ++ [x]) l.length = x := by simp [nth]
theorem str_to {op : Nat → Bool} : ∀ {K : Nat}, Str op K (strTo op K)
  | 0 => ⟨fun i h => by simp [strTo] at h, fun i h => by simp [strTo] at h, fun lo hi _ h => by omega, fun i h => by simp [strTo] at h⟩
  | K + 1 => by
    have ih := str_to (op := op) (K := K)
    generalize hs : strTo op K = s at ih
    by_cases ho : op K = true
    · have hlast : longer s K = true ∨ longer s K = false := by cases longer s K <;> simp
      rcases hlast with hl | hl
      · have hl2 := hl
        unfold longer lastEnd at hl2
        simp only [Bool.and_eq_true, decide_eq_true_eq] at hl2
        obtain ⟨hp, he⟩ := hl2
        rw [strTo_more ho (by rw [hs]; exact hl), hs]
        have hln : (s.set (s.length - 1) [nth (nth s (s.length - 1)) 0, (K : Int)]).length = s.length := by simp
        have e1 : nth (s.set (s.length - 1) [nth (nth s (s.length - 1)) 0, (K : Int)]) (s.length - 1) = [nth (nth s (s.length - 1)) 0, (K : Int)] := nth_set_self (by omega)
        have e2 : ∀ i, i ≠ s.length - 1 → nth (s.set (s.length - 1) [nth (nth s (s.length - 1)) 0, (K : Int)]) i = nth s i := fun i hi => nth_set_ne (by omega)
        have f0 : ∀ a b : Int, nth [a, b] 0 = a := fun _ _ => rfl
        have f1 : ∀ a b : Int, nth [a, b] 1 = b := fun _ _ => rfl
        refine ⟨fun i hi => ?_, fun i hi k h1 h2 => ?_, fun lo hi h1 h2 h3 => ?_, fun i hi => ?_⟩
        · rw [hln] at hi
          have h5 := ih.inn i hi
          by_cases h4 : i = s.length - 1
          · rw [h4, e1, f0, f1]; rw [h4] at h5; omega
          · rw [e2 i h4]; omega
        · rw [hln] at hi
          by_cases h4 : i = s.length - 1
          · rw [h4, e1, f0] at h1
            rw [h4, e1, f1] at h2
            rcases Nat.lt_or_ge k K with h6 | h6
            · exact ih.opn _ (show s.length - 1 < s.length by omega) k h1 (by omega)
            · obtain rfl : k = K := by omega
              exact ho
          · rw [e2 i h4] at h1 h2
            exact ih.opn i hi k h1 h2
        · rcases Nat.lt_or_ge hi K with h4 | h4
          · obtain ⟨i, h5, h6, h7⟩ := ih.has lo hi h1 h4 h3
            refine ⟨i, by rw [hln]; exact h5, ?_⟩
            by_cases h8 : i = s.length - 1
            · rw [h8, e1, f0, f1]; rw [h8] at h6; omega
            · rw [e2 i h8]; omega
          · obtain rfl : hi = K := by omega
            refine ⟨s.length - 1, by rw [hln]; omega, ?_⟩
            rw [e1, f0, f1]
            refine ⟨?_, Int.le_refl _⟩
            have h9 := ih.inn (s.length - 1) (by omega)
            rcases Nat.lt_or_ge lo hi with h5 | h5
            · obtain ⟨i, h6, h7, h8⟩ := ih.has lo (hi - 1) (by omega) (by omega) (fun k h10 h11 => h3 k h10 (by omega))
              have h12 : i = s.length - 1 := by
                by_cases h13 : i + 1 < s.length
                · have := ih.lst i h13; omega
                · omega
              rw [h12] at h7
              exact h7
            · omega
        · rw [hln] at hi
          have := ih.lst i hi
          rw [e2 i (by omega)]
          omega
      · have hl2 : ∀ _ : 0 < s.length, nth (nth s (s.length - 1)) 1 ≠ (K : Int) - 1 := fun hp he => by
          unfold longer lastEnd at hl
          rw [he] at hl
          simp [hp] at hl
        rw [strTo_new ho (by rw [hs]; exact hl), hs]
        have f0 : ∀ a b : Int, nth [a, b] 0 = a := fun _ _ => rfl
        have f1 : ∀ a b : Int, nth [a, b] 1 = b := fun _ _ => rfl
        have hln : (s ++ [[(K : Int), (K : Int)]]).length = s.length + 1 := by simp
        refine ⟨fun i hi => ?_, fun i hi k h1 h2 => ?_, fun lo hi h1 h2 h3 => ?_, fun i hi => ?_⟩
        · rw [hln] at hi
          rcases Nat.lt_or_ge i s.length with h4 | h4
          · rw [nth_app1 h4]; have := ih.inn i h4; omega
          · obtain rfl : i = s.length := by omega
            rw [nth_app2, f0, f1]; omega
        · rw [hln] at hi
          rcases Nat.lt_or_ge i s.length with h4 | h4
          · rw [nth_app1 h4] at h1 h2; exact ih.opn i h4 k h1 h2
          · obtain rfl : i = s.length := by omega
            rw [nth_app2, f0] at h1
            rw [nth_app2, f1] at h2
            obtain rfl : k = K := by omega
            exact ho
        · rcases Nat.lt_or_ge hi K with h4 | h4
          · obtain ⟨i, h5, h6, h7⟩ := ih.has lo hi h1 h4 h3
            exact ⟨i, by omega, by rw [nth_app1 h5]; exact ⟨h6, h7⟩⟩
          · obtain rfl : hi = K := by omega
            rcases Nat.lt_or_ge lo hi with h5 | h5
            · exfalso
              obtain ⟨i, h6, h7, h8⟩ := ih.has lo (hi - 1) (by omega) (by omega) (fun k h10 h11 => h3 k h10 (by omega))
              have h9 := ih.inn i h6
              by_cases h13 : i + 1 < s.length
              · have := ih.lst i h13; omega
              · obtain rfl : i = s.length - 1 := by omega
                exact hl2 (by omega) (by omega)
            · exact ⟨s.length, by omega, by rw [nth_app2, f0, f1]; omega⟩
        · rw [hln] at hi
          have h4 : i < s.length := by omega
          rw [nth_app1 h4]
          have := ih.inn i h4
          omega
    · rw [strTo_no (by simpa using ho), hs]
      refine ⟨fun i hi => ?_, ih.opn, fun lo hi h1 h2 h3 => ?_, fun i hi => ?_⟩
      · have := ih.inn i hi; omega
      · rcases Nat.lt_or_ge hi K with h4 | h4
        · exact ih.has lo hi h1 h4 h3
        · obtain rfl : hi = K := by omega
          exact absurd (h3 hi h1 (Nat.le_refl _)) ho
      · have := ih.lst i hi; omega
/-- Does the way lie in one of the first stretches? -/
def insTo (s : List (List Int)) (lo hi : Int) (k : Nat) : Bool := !allTo k (fun i => !(decide (nth (nth s i) 0 ≤ lo) && decide (hi ≤ nth (nth s i) 1)))
theorem insTo_succ {s : List (List Int)} {lo hi : Int} {k : Nat} : insTo s lo hi (k + 1) = (insTo s lo hi k || (decide (nth (nth s k) 0 ≤ lo) && decide (hi ≤ nth (nth s k) 1))) := by
  unfold insTo
  rw [allTo_succ, Bool.not_and, Bool.not_not]
theorem asked_bnd {ns : List Notice} {a b d : Int} (h : asked ns a b d = true) : 0 ≤ a ∧ a ≤ 600 ∧ 0 ≤ b ∧ b ≤ 600 ∧ 0 ≤ d ∧ d ≤ 365 ∧ endOk ns d = true := by
  have h1 := h
  simp only [asked, Bool.and_eq_true, inB_iff] at h1
  refine ⟨by omega, by omega, by omega, by omega, by omega, by omega, ?_⟩
  unfold endOk
  rw [h1.1.1.1, Bool.true_and, inB_iff]
  exact h1.2
/-- The way lies in one stretch exactly if it is open. -/
theorem inside_open {ns : List Notice} {a b d : Int} (h : asked ns a b d = true) : insTo (strL ns d) (min a b) (max a b) (strL ns d).length = openDay ns a b d := by
  have hb := asked_bnd h
  have hS := str_to (op := openD ns d) (K := 601)
  have hE : strL ns d = strTo (openD ns d) 601 := by unfold strL; rw [if_pos hb.2.2.2.2.2.2]
  rw [hE]
  generalize strTo (openD ns d) 601 = s at hS
  rw [Bool.eq_iff_iff, openDay_all (asked_way h) (by omega)]
  unfold insTo
  constructor
  · intro h1 k h2 h3
    have h4 : ¬ ∀ i, i < s.length → (!(decide (nth (nth s i) 0 ≤ min a b) && decide (max a b ≤ nth (nth s i) 1))) = true := fun h5 => by
      rw [allTo_iff.2 h5] at h1
      cases h1
    obtain ⟨i, h5⟩ := Classical.not_forall.1 h4
    obtain ⟨h6, h7⟩ := Classical.not_imp.1 h5
    simp only [Bool.not_eq_true', Bool.and_eq_true, decide_eq_true_eq, Bool.not_eq_false] at h7
    exact hS.opn i h6 k (by omega) (by omega)
  · intro h1
    obtain ⟨i, h2, h3, h4⟩ := hS.has (min a b).toNat (max a b).toNat (by omega) (by omega) (fun k h2 h3 => h1 k (by omega) (by omega))
    rw [Bool.not_eq_true', ← Bool.not_eq_true, allTo_iff]
    intro h5
    have h6 := h5 i h2
    simp only [Bool.not_eq_true', Bool.and_eq_false_iff, decide_eq_false_iff_not] at h6
    omega
/-- The next open day: before it all is closed. -/
theorem next_early {ns : List Notice} {a b d : Int} (h : asked ns a b d = true) {e : Int} (h1 : d ≤ e) (h2 : e < (nextOf ns a b d).1) : isOpenOf ns a b e = (false, true) := by
  have hb := asked_bnd h
  unfold nextOf at h2
  rw [if_pos h] at h2
  generalize hf : firstTo (366 - d).toNat (fun i => openDay ns a b (d + (i : Int))) = r at h2
  match r, hf with
  | none, _ => simp at h2; omega
  | some i, hf =>
    obtain ⟨h3, _, h5⟩ := firstTo_spec hf
    simp only at h2
    have h6 := h5 (e - d).toNat (by omega)
    simp only [show d + (((e - d).toNat : Nat) : Int) = e by omega] at h6
    unfold isOpenOf
    have h7 : asked ns a b e = true := by
      simp only [asked, Bool.and_eq_true, inB_iff] at h ⊢
      exact ⟨h.1, by omega, by omega⟩
    rw [if_pos h7, h6]
theorem next_open {ns : List Notice} {a b d : Int} (h : asked ns a b d = true) (h1 : openDay ns a b d = true) : nextOf ns a b d = (d, true) := by
  have hb := asked_bnd h
  unfold nextOf
  rw [if_pos h, firstTo_some (k := 0) (by omega) (by simpa using h1) (fun i hi => by omega)]
  simp
theorem next_bnd {ns : List Notice} {a b d : Int} : (nextOf ns a b d).1 ≤ 366 := by
  unfold nextOf
  split
  · generalize hf : firstTo (366 - d).toNat (fun i => openDay ns a b (d + (i : Int))) = r
    match r, hf with
    | none, _ => simp
    | some i, hf =>
      obtain ⟨h3, _, _⟩ := firstTo_spec hf
      simp only
      omega
  · simp
theorem least_le {ns : List Notice} {kind a b d v : Int} : ∀ {k : Nat}, leastTo ns kind a b d v k ≤ v
  | 0 => Int.le_refl _
  | k + 1 => by
    have ih := least_le (ns := ns) (kind := kind) (a := a) (b := b) (d := d) (v := v) (k := k)
    rw [leastTo]
    split <;> omega
theorem depth_le {ns : List Notice} {a b d v : Int} (h : (depthOnWay ns a b d v).2 = true) : (depthOnWay ns a b d v).1 ≤ v := by
  unfold depthOnWay at h ⊢
  split
  · exact least_le
  · rename_i h1; rw [if_neg h1] at h; cases h
theorem speed_le {ns : List Notice} {a d v : Int} (h : (speedAt ns a d v).2 = true) : (speedAt ns a d v).1 ≤ v := by
  unfold speedAt at h ⊢
  split
  · exact least_le
  · rename_i h1; rw [if_neg h1] at h; cases h
end Go.Proofs.Ytjabeiolgghfdaa
