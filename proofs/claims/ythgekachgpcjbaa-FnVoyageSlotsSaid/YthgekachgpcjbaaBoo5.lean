/- Bookings: the slot that has most bookings. Conditions: none. -/
import Derived.Test.YthgekachgpcjbaaBoo4
namespace Go.Proofs.Ythgekachgpcjbaa
open Go.RowKit
set_option maxRecDepth 100000
def cmpI (a b : Int) : Int := if a < b then -1 else if b < a then 1 else 0
theorem isNaN_spec {w : World} {a : Int} : Calls Try.prog 86 #[.int .i64 a] w (RetB w (.bool false)) := by
  refine calls_of_run (vs := [_]) (L := [(0, _)]) (n := 6) (F := []) (H := []) Try.func86 rfl rfl rfl rfl (HOk.start _) ?_
  refine Run.seq ?_
  refine Run.quiet (by intro h; cases h) ?_
  refine QOps.st rfl rfl (Yv.assign rfl).yl ?_
  refine QOps.nil ?_
  refine Run.seq ?_
  refine Run.quiet (by intro h; cases h) ?_
  refine QOps.st rfl rfl (Yv.move rfl).yl ?_
  refine QOps.st rfl rfl (Yv.move rfl).yl ?_
  refine QOps.st rfl rfl (Yv.neI rfl rfl).yl ?_
  refine QOps.st rfl rfl (Yv.assign rfl).yl ?_
  refine QOps.nil ?_
  refine Run.ret ?_
  refine retQ.of (.inr rfl) rfl (.tmp rfl .nil) (fun w' hw' => ?_)
  refine ⟨?_, hw'.bel.below⟩
  refine retB_eq ?_
  simp
theorem Compare_spec {w : World} {a b : Int} : Calls Try.prog 62 #[.int .i64 a, .int .i64 b] w (RetB w (.int .i64 (cmpI a b))) := by
  refine calls_of_run (vs := [_, _]) (L := [(0, _), (1, _)]) (n := 20) (F := []) (H := []) Try.func62 rfl rfl rfl rfl (HOk.start _) ?_
  refine Run.seq ?_
  refine Run.quiet (by intro h; cases h) ?_
  refine QOps.st rfl rfl (Yv.assign rfl).yl ?_
  refine QOps.nil ?_
  refine Run.seq ?_
  refine Run.quiet (by intro h; cases h) ?_
  refine QOps.st rfl rfl (Yv.move rfl).yl ?_
  refine QOps.st rfl rfl (Yl.call callable86 (.cons rfl (.nil)) (fun w' hw' => isNaN_spec)) ?_
  refine QOps.st rfl rfl (Yv.assign rfl).yl ?_
  refine QOps.nil ?_
  refine Run.seq ?_
  refine Run.quiet (by intro h; cases h) ?_
  refine QOps.st rfl rfl (Yv.move rfl).yl ?_
  refine QOps.st rfl rfl (Yl.call callable86 (.cons rfl (.nil)) (fun w' hw' => isNaN_spec)) ?_
  refine QOps.st rfl rfl (Yv.assign rfl).yl ?_
  refine QOps.nil ?_
  refine Run.seq ?_
  refine Run.seq ?_
  refine Run.quiet (by intro h; cases h) ?_
  refine QOps.st rfl rfl (Yv.move rfl).yl ?_
  refine QOps.nil ?_
  refine Run.cond rfl (fun hc1 => ?_) (fun hc1 => ?_)
  · exfalso
    cases hc1
  · try replace hc1 := of_decide_eq_false hc1
    refine Run.skip ?_
    refine Run.seq ?_
    refine Run.seq ?_
    refine Run.quiet (by intro h; cases h) ?_
    refine QOps.st rfl rfl (Yv.move rfl).yl ?_
    refine QOps.nil ?_
    refine Run.cond rfl (fun hc2 => ?_) (fun hc2 => ?_)
    · exfalso
      cases hc2
    · try replace hc2 := of_decide_eq_false hc2
      refine Run.skip ?_
      refine Run.seq ?_
      refine Run.seq ?_
      refine Run.quiet (by intro h; cases h) ?_
      refine QOps.st rfl rfl (Yv.move rfl).yl ?_
      refine QOps.st rfl rfl (Yv.move rfl).yl ?_
      refine QOps.st rfl rfl (Yv.lss rfl rfl).yl ?_
      refine QOps.nil ?_
      refine Run.cond rfl (fun hc3 => ?_) (fun hc3 => ?_)
      · try replace hc3 := of_decide_eq_true hc3
        refine Run.seq ?_
        refine Run.quiet (by intro h; cases h) ?_
        refine QOps.st rfl rfl (Yv.assign rfl).yl ?_
        refine QOps.nil ?_
        refine Run.ret ?_
        refine retQ.of (.inr rfl) rfl (.tmp rfl .nil) (fun w' hw' => ?_)
        refine ⟨?_, hw'.bel.below⟩
        refine retI_eq ?_
        unfold cmpI; rw [if_pos hc3]
      · try replace hc3 := of_decide_eq_false hc3
        refine Run.skip ?_
        refine Run.seq ?_
        refine Run.seq ?_
        refine Run.quiet (by intro h; cases h) ?_
        refine QOps.st rfl rfl (Yv.move rfl).yl ?_
        refine QOps.st rfl rfl (Yv.move rfl).yl ?_
        refine QOps.st rfl rfl (Yv.gtr rfl rfl).yl ?_
        refine QOps.nil ?_
        refine Run.cond rfl (fun hc4 => ?_) (fun hc4 => ?_)
        · try replace hc4 := of_decide_eq_true hc4
          refine Run.seq ?_
          refine Run.quiet (by intro h; cases h) ?_
          refine QOps.st rfl rfl (Yv.assign rfl).yl ?_
          refine QOps.nil ?_
          refine Run.ret ?_
          refine retQ.of (.inr rfl) rfl (.tmp rfl .nil) (fun w' hw' => ?_)
          refine ⟨?_, hw'.bel.below⟩
          refine retI_eq ?_
          unfold cmpI; rw [if_neg hc3, if_pos hc4]
        · try replace hc4 := of_decide_eq_false hc4
          refine Run.skip ?_
          refine Run.seq ?_
          refine Run.quiet (by intro h; cases h) ?_
          refine QOps.st rfl rfl (Yv.assign rfl).yl ?_
          refine QOps.nil ?_
          refine Run.ret ?_
          refine retQ.of (.inr rfl) rfl (.tmp rfl .nil) (fun w' hw' => ?_)
          refine ⟨?_, hw'.bel.below⟩
          refine retI_eq ?_
          unfold cmpI; rw [if_neg hc3, if_neg hc4]
def orI : List Int → Int
  | [] => 0
  | x :: r => if x = 0 then orI r else x
theorem drop_nth {α : Type} [Inhabited α] {l : List α} {k : Nat} (h : k < l.length) : l.drop k = nth l k :: l.drop (k + 1) := by
  rw [List.drop_eq_getElem_cons h]
  simp [nth, h]
theorem Or_spec {w : World} {A : Option Addr} {c : Nat} {l : List Int} (hs : Sl w 1 A l.length c (l.flatMap intC)) : Calls Try.prog 61 #[.slice A l.length c] w (RetB w (.int .i64 (orI l))) := by
  have hmx := Sl.lenle hs
  refine calls_of_run (vs := [_]) (L := [(0, _)]) (n := 18) (F := []) (H := []) Try.func61 rfl rfl rfl rfl (HOk.start _) ?_
  refine Run.seq ?_
  refine Run.quiet (by intro h; cases h) ?_
  refine QOps.st rfl rfl (Yv.assign rfl).yl ?_
  refine QOps.nil ?_
  refine Run.seq ?_
  refine Run.quiet (by intro h; cases h) ?_
  refine QOps.st rfl rfl (Yv.assign rfl).yl ?_
  refine QOps.nil ?_
  refine Run.seq ?_
  refine Run.seq ?_
  refine Run.quiet (by intro h; cases h) ?_
  refine QOps.st rfl rfl (Yv.move rfl).yl ?_
  refine QOps.st rfl rfl (Yv.lenS el85s rfl).yl ?_
  refine QOps.st rfl rfl (Yv.move rfl).yl ?_
  refine QOps.nil ?_
  refine Run.block ?_
  refine Run.loop (S := Nat) (fun s => match s with | k => k ≤ l.length ∧ orI (l.drop k) = orI l) (fun s => match s with | k => [(3, .int .i64 0), (6, .slice A l.length c), (7, .int .i64 (l.length : Int)), (8, .int .i64 (k : Int))]) (fun s => match s with | k => []) (fun s => match s with | k => l.length - k) 0 ?_ (SubE.cons rfl (SubE.cons rfl (SubE.cons rfl (SubE.cons rfl (SubE.nil _))))) (List.Sublist.refl _) ?_
  · exact ⟨by omega, rfl⟩
  · rintro k ⟨hk, heq⟩
    show Run _ _ _ _ _ [(3, .int .i64 0), (6, .slice A l.length c), (7, .int .i64 (l.length : Int)), (8, .int .i64 (k : Int))] [] _
    refine Run.seq ?_
    refine Run.quiet (by intro h; cases h) ?_
    refine QOps.st rfl rfl (Yv.lss rfl rfl).yl ?_
    refine QOps.nil ?_
    refine Run.seq ?_
    refine Run.cond rfl (fun hc1 => ?_) (fun hc1 => ?_)
    · try replace hc1 := of_decide_eq_true hc1
      refine Run.skip ?_
      refine Run.seq ?_
      refine Run.block ?_
      refine Run.seq ?_
      refine Run.quiet (by intro h; cases h) ?_
      refine QOps.st rfl rfl (Yv.indexAddr k el85 rfl rfl rfl (Rd.arg hs) (by omega)).yl ?_
      refine QOps.st rfl rfl (Yv.loadE lay3 rfl intC_len (Rd.arg hs) (by first | omega | (simp; omega)) rfl).yl ?_
      refine QOps.st rfl rfl (Yv.assign rfl).yl ?_
      refine QOps.nil ?_
      refine Run.seq ?_
      refine Run.quiet (by intro h; cases h) ?_
      refine QOps.st rfl rfl (Yv.move rfl).yl ?_
      refine QOps.st rfl rfl (Yv.move rfl).yl ?_
      refine QOps.st rfl rfl (Yv.neI rfl rfl).yl ?_
      refine QOps.nil ?_
      refine Run.cond rfl (fun hc2 => ?_) (fun hc2 => ?_)
      · try replace hc2 := of_decide_eq_true hc2
        have hx : orI l = nth l k := by rw [← heq, drop_nth (by omega), orI, if_neg (by simpa using hc2)]
        refine Run.seq ?_
        refine Run.quiet (by intro h; cases h) ?_
        refine QOps.st rfl rfl (Yv.move rfl).yl ?_
        refine QOps.st rfl rfl (Yv.assign rfl).yl ?_
        refine QOps.nil ?_
        refine Run.ret ?_
        refine retQ.of (.inr rfl) rfl (.tmp rfl .nil) (fun w' hw' => ?_)
        refine ⟨?_, hw'.bel.below⟩
        refine retI_eq ?_
        rw [hx]
      · try replace hc2 := of_decide_eq_false hc2
        refine Run.skip ?_
        refine Run.quiet (by intro h; cases h) ?_
        refine QOps.st rfl rfl (Yv.succN rfl rfl (by omega)).yl ?_
        refine QOps.st rfl rfl (Yv.move rfl).yl ?_
        refine QOps.nil ?_
        refine ⟨k + 1, ?_, ?_, (SubE.cons rfl (SubE.cons rfl (SubE.cons rfl (SubE.cons rfl (SubE.nil _))))), (List.Sublist.refl _)⟩
        · exact ⟨by omega, by rw [← heq, drop_nth (l := l) (k := k) (by omega), orI, if_pos (by simpa using hc2)]⟩
        · first | omega | (dsimp only; omega)
    · try replace hc1 := of_decide_eq_false hc1
      refine Run.exit ?_
      refine Run.seq ?_
      refine Run.quiet (by intro h; cases h) ?_
      refine QOps.st rfl rfl (Yv.move rfl).yl ?_
      refine QOps.st rfl rfl (Yv.assign rfl).yl ?_
      refine QOps.nil ?_
      refine Run.ret ?_
      refine retQ.of (.inr rfl) rfl (.tmp rfl .nil) (fun w' hw' => ?_)
      refine ⟨?_, hw'.bel.below⟩
      refine retI_eq ?_
      rw [← heq, List.drop_of_length_le (by omega)]; rfl

theorem cmpI_lt {a b : Int} (h : a < b) : cmpI a b = -1 := by unfold cmpI; rw [if_pos h]
theorem cmpI_eq {a b : Int} (h : a = b) : cmpI a b = 0 := by unfold cmpI; rw [if_neg (by omega), if_neg (by omega)]
theorem cmpI_gt {a b : Int} (h : b < a) : cmpI a b = 1 := by unfold cmpI; rw [if_neg (by omega), if_pos h]
theorem or3_neg {a a' b b' d d' : Int} : orI [cmpI a a', cmpI b b', cmpI d d'] < 0 ↔ a < a' ∨ a = a' ∧ (b < b' ∨ b = b' ∧ d < d') := by
  rcases Int.lt_trichotomy a a' with h | h | h
  · simp [orI, cmpI_lt h, h]
  · rcases Int.lt_trichotomy b b' with h2 | h2 | h2
    · simp only [orI, cmpI_eq h, cmpI_lt h2, if_true]
      simp
      omega
    · rcases Int.lt_trichotomy d d' with h3 | h3 | h3
      · simp only [orI, cmpI_eq h, cmpI_eq h2, cmpI_lt h3, if_true]
        simp
        omega
      · simp only [orI, cmpI_eq h, cmpI_eq h2, cmpI_eq h3, if_true]
        simp
        omega
      · simp only [orI, cmpI_eq h, cmpI_eq h2, cmpI_gt h3, if_true]
        simp
        omega
    · simp only [orI, cmpI_eq h, cmpI_gt h2, if_true]
      simp
      omega
  · simp only [orI, cmpI_gt h]
    simp
    omega
def usedB (bs : List Booking) (l s : Int) : Int := usedTo bs l s bs.length
theorem usedTo_pos {bs : List Booking} {j : Nat} : ∀ {k : Nat}, j < k → 1 ≤ usedTo bs (nth bs j).lock (nth bs j).slot k
  | 0, h => by omega
  | k + 1, h => by
    have h0 := usedTo_range (bs := bs) (lock := (nth bs j).lock) (slot := (nth bs j).slot) (k := k)
    rw [usedTo]
    rcases Nat.lt_or_ge j k with h1 | h1
    · have := usedTo_pos (bs := bs) h1
      split <;> omega
    · obtain rfl : j = k := by omega
      rw [if_pos (by simp)]
      omega
theorem usedTo_ex {bs : List Booking} {l s : Int} : ∀ {k : Nat}, 0 < usedTo bs l s k → ∃ j, j < k ∧ (nth bs j).lock = l ∧ (nth bs j).slot = s
  | 0, h => by simp [usedTo] at h
  | k + 1, h => by
    rw [usedTo] at h
    split at h
    · rename_i hc
      simp only [Bool.and_eq_true, decide_eq_true_eq] at hc
      exact ⟨k, by omega, hc⟩
    · obtain ⟨j, h1, h2⟩ := usedTo_ex h
      exact ⟨j, by omega, h2⟩
def leL (l s l' s' : Int) : Prop := l < l' ∨ l = l' ∧ s ≤ s'
def inL (l s : Int) : Prop := 0 ≤ l ∧ l ≤ 4 ∧ 0 ≤ s ∧ s ≤ 47
/-- A slot that has most, and the first of those. -/
structure Busy (bs : List Booking) (l s m : Int) : Prop where
  inr : inL l s
  eq : m = usedB bs l s
  top : ∀ l' s', inL l' s' → usedB bs l' s' ≤ m
  first : ∀ l' s', inL l' s' → usedB bs l' s' = m → leL l s l' s'
theorem Busy.one {bs : List Booking} {l s m l' s' m' : Int} (h : Busy bs l s m) (h' : Busy bs l' s' m') : l = l' ∧ s = s' ∧ m = m' := by
  have e : m = m' := by
    have h1 := h.top l' s' h'.inr
    have h2 := h'.top l s h.inr
    rw [← h'.eq] at h1
    rw [← h.eq] at h2
    omega
  have h3 := h.first l' s' h'.inr (by rw [← h'.eq, e])
  have h4 := h'.first l s h.inr (by rw [← h.eq, e])
  simp only [leL] at h3 h4
  omega
def busyTo (bs : List Booking) : Nat → Booking × Int
  | 0 => (nth bs 0, 0)
  | k + 1 => if orI [cmpI (busyTo bs k).2 (usedB bs (nth bs k).lock (nth bs k).slot), cmpI (nth bs k).lock (busyTo bs k).1.lock, cmpI (nth bs k).slot (busyTo bs k).1.slot] < 0 then (nth bs k, usedB bs (nth bs k).lock (nth bs k).slot) else busyTo bs k
structure BTo (bs : List Booking) (k : Nat) (b : Booking) (m : Int) : Prop where
  zero : k = 0 → m = 0
  some_ : 0 < k → m = usedB bs b.lock b.slot ∧ ∃ j, j < k ∧ b = nth bs j
  top : ∀ i, i < k → usedB bs (nth bs i).lock (nth bs i).slot ≤ m
  first : ∀ i, i < k → usedB bs (nth bs i).lock (nth bs i).slot = m → leL b.lock b.slot (nth bs i).lock (nth bs i).slot
theorem bTo {bs : List Booking} : ∀ {k : Nat}, k ≤ bs.length → BTo bs k (busyTo bs k).1 (busyTo bs k).2
  | 0, _ => ⟨fun _ => rfl, fun h => by omega, fun i h => by omega, fun i h => by omega⟩
  | k + 1, hk => by
    have ih := bTo (bs := bs) (k := k) (by omega)
    have hp : 1 ≤ usedB bs (nth bs k).lock (nth bs k).slot := usedTo_pos (by omega)
    rw [busyTo]
    generalize busyTo bs k = q at *
    obtain ⟨b, m⟩ := q
    dsimp only at *
    split
    · rename_i h
      rw [or3_neg] at h
      refine ⟨fun h => by omega, fun _ => ⟨rfl, k, by omega, rfl⟩, fun i hi => ?_, fun i hi he => ?_⟩
      · rcases Nat.lt_or_ge i k with h1 | h1
        · have := ih.top i h1
          omega
        · obtain rfl : i = k := by omega
          exact Int.le_refl _
      · rcases Nat.lt_or_ge i k with h1 | h1
        · have h2 := ih.top i h1
          have h3 := ih.first i h1 (by omega)
          simp only [leL] at *
          omega
        · obtain rfl : i = k := by omega
          exact .inr ⟨rfl, Int.le_refl _⟩
    · rename_i h
      rw [or3_neg] at h
      have hk0 : 0 < k := by
        rcases Nat.eq_zero_or_pos k with h0 | h0
        · have := ih.zero h0
          omega
        · exact h0
      obtain ⟨h1, j, h2, h3⟩ := ih.some_ hk0
      refine ⟨fun h => by omega, fun _ => ⟨h1, j, by omega, h3⟩, fun i hi => ?_, fun i hi he => ?_⟩
      · rcases Nat.lt_or_ge i k with h4 | h4
        · exact ih.top i h4
        · obtain rfl : i = k := by omega
          omega
      · rcases Nat.lt_or_ge i k with h4 | h4
        · exact ih.first i h4 he
        · obtain rfl : i = k := by omega
          simp only [leL] at *
          omega
theorem one_in {b : Booking} (h : oneB b = true) : inL b.lock b.slot := by
  simp only [oneB, slotOk, Bool.and_eq_true, inB_iff] at h
  simp only [inL]
  omega
theorem busy_impl {room : Int} {bs : List Booking} (h : areBookings room bs = true) (hl : 0 < bs.length) : Busy bs (busyTo bs bs.length).1.lock (busyTo bs bs.length).1.slot (busyTo bs bs.length).2 := by
  have hb := bTo (bs := bs) (Nat.le_refl _)
  obtain ⟨h1, j, h2, h3⟩ := hb.some_ hl
  have hp := (are_parts h).2.2
  have hm : 1 ≤ (busyTo bs bs.length).2 := by rw [h1, h3]; exact usedTo_pos h2
  refine ⟨by rw [h3]; exact one_in (bad_head (hp j h2)), h1, fun l' s' _ => ?_, fun l' s' _ he => ?_⟩
  · rcases Int.lt_or_le 0 (usedB bs l' s') with h4 | h4
    · obtain ⟨i, h5, rfl, rfl⟩ := usedTo_ex h4
      exact hb.top i h5
    · omega
  · obtain ⟨i, h5, rfl, rfl⟩ := usedTo_ex (show 0 < usedTo bs l' s' bs.length by have : usedTo bs l' s' bs.length = (busyTo bs bs.length).2 := he; omega)
    exact hb.first i h5 he
/-- The best of the slots ahead of slot k of lock i. -/
structure BestTo (bs : List Booking) (i k : Int) (l s m : Int) : Prop where
  top : ∀ l' s', inL l' s' → (l' < i ∨ l' = i ∧ s' < k) → usedB bs l' s' ≤ m
  first : ∀ l' s', inL l' s' → (l' < i ∨ l' = i ∧ s' < k) → usedB bs l' s' = m → 0 < m → leL l s l' s'
  is_ : m = 0 ∨ 0 < m ∧ m = usedB bs l s ∧ inL l s ∧ (l < i ∨ l = i ∧ s < k)
theorem BestTo.start {bs : List Booking} : BestTo bs 0 0 0 0 0 := ⟨fun l' s' h h' => by simp only [inL] at h; omega, fun l' s' h h' => by simp only [inL] at h; omega, .inl rfl⟩
theorem BestTo.yes {bs : List Booking} {i k l s m : Int} (h : BestTo bs i k l s m) (hi : 0 ≤ i ∧ i ≤ 4) (hk : 0 ≤ k ∧ k < 48) (hu : m < usedB bs i k) : BestTo bs i (k + 1) i k (usedB bs i k) := by
  have hm : 0 ≤ m := by rcases h.is_ with h1 | h1 <;> omega
  refine ⟨fun l' s' h1 h2 => ?_, fun l' s' h1 h2 he _ => ?_, .inr ⟨by omega, rfl, by simp only [inL]; omega, by omega⟩⟩
  · by_cases hn : l' = i ∧ s' = k
    · rw [hn.1, hn.2]; exact Int.le_refl _
    · have := h.top l' s' h1 (by omega)
      omega
  · by_cases hn : l' = i ∧ s' = k
    · rw [hn.1, hn.2]; exact .inr ⟨rfl, Int.le_refl _⟩
    · have := h.top l' s' h1 (by omega)
      omega
theorem BestTo.no {bs : List Booking} {i k l s m : Int} (h : BestTo bs i k l s m) (hu : ¬ m < usedB bs i k) : BestTo bs i (k + 1) l s m := by
  refine ⟨fun l' s' h1 h2 => ?_, fun l' s' h1 h2 he hm => ?_, ?_⟩
  · by_cases hn : l' = i ∧ s' = k
    · rw [hn.1, hn.2]; omega
    · exact h.top l' s' h1 (by omega)
  · by_cases hn : l' = i ∧ s' = k
    · rw [hn.1, hn.2]
      rcases h.is_ with h3 | h3
      · omega
      · simp only [leL]; omega
    · exact h.first l' s' h1 (by omega) he hm
  · rcases h.is_ with h3 | ⟨h3, h4, h5, h6⟩
    · exact .inl h3
    · exact .inr ⟨h3, h4, h5, by omega⟩
theorem BestTo.row {bs : List Booking} {i l s m : Int} (h : BestTo bs i 48 l s m) : BestTo bs (i + 1) 0 l s m := by
  refine ⟨fun l' s' h1 h2 => h.top l' s' h1 (by simp only [inL] at h1; omega), fun l' s' h1 h2 => h.first l' s' h1 (by simp only [inL] at h1; omega), ?_⟩
  rcases h.is_ with h3 | ⟨h3, h4, h5, h6⟩
  · exact .inl h3
  · exact .inr ⟨h3, h4, h5, by omega⟩
theorem BestTo.busy {bs : List Booking} {room l s m : Int} (h : BestTo bs 5 0 l s m) (ha : areBookings room bs = true) (hl : 0 < bs.length) : Busy bs l s m := by
  have h0 := one_in (bad_head ((are_parts ha).2.2 0 hl))
  have h1 := h.top _ _ h0 (by simp only [inL] at h0; omega)
  have h2 : 1 ≤ usedB bs (nth bs 0).lock (nth bs 0).slot := usedTo_pos hl
  rcases h.is_ with h3 | ⟨h3, h4, h5, h6⟩
  · omega
  · exact ⟨h5, h4, fun l' s' h7 => h.top l' s' h7 (by simp only [inL] at h7; omega), fun l' s' h7 he => h.first l' s' h7 (by simp only [inL] at h7; omega) he h3⟩
def busyOk (room : Int) (bs : List Booking) : Bool := areBookings room bs && !decide ((bs.length : Int) = 0)
def busyL (room : Int) (bs : List Booking) : Int := if busyOk room bs = true then (busyTo bs bs.length).1.lock else 0
def busyS (room : Int) (bs : List Booking) : Int := if busyOk room bs = true then (busyTo bs bs.length).1.slot else 0
def busyM (room : Int) (bs : List Booking) : Int := if busyOk room bs = true then (busyTo bs bs.length).2 else 0
theorem ret4_eq {a b d a' b' d' : Int} {e e' : Bool} (h1 : a = a') (h2 : b = b') (h3 : d = d') (h4 : e = e') : Ending.returned (single [.int .i64 a, .int .i64 b, .int .i64 d, .bool e]) = .returned (.tuple #[.int .i64 a', .int .i64 b', .int .i64 d', .bool e']) := by rw [h1, h2, h3, h4]; rfl
theorem BusySlot_spec {w : World} {A : Option Addr} {c : Nat} {room : Int} {bs : List Booking} (hs : Sl w 4 A bs.length c (bs.flatMap Booking.enc)) : Calls Try.prog 22 #[.int .i64 room, .slice A bs.length c] w (RetB w (.tuple #[.int .i64 (busyL room bs), .int .i64 (busyS room bs), .int .i64 (busyM room bs), .bool (busyOk room bs)])) := by
  have hmx := Sl.lenle hs
  refine calls_of_run (vs := [_, _]) (L := [(0, _), (1, _)]) (n := 63) (F := []) (H := []) Try.func22 rfl rfl rfl rfl (HOk.start _) ?_
  refine Run.seq ?_
  refine Run.quiet (by intro h; cases h) ?_
  refine QOps.st rfl rfl (Yv.assign rfl).yl ?_
  refine QOps.st rfl rfl (Yv.assign rfl).yl ?_
  refine QOps.st rfl rfl (Yv.assign rfl).yl ?_
  refine QOps.st rfl rfl (Yv.assign rfl).yl ?_
  refine QOps.nil ?_
  refine Run.seq ?_
  refine Run.seq ?_
  refine Run.quiet (by intro h; cases h) ?_
  refine QOps.st rfl rfl (Yv.move rfl).yl ?_
  refine QOps.st rfl rfl (Yv.move rfl).yl ?_
  refine QOps.st rfl rfl (Yl.call callable17 (.cons rfl (.cons rfl (.nil))) (fun w' hw' => AreBookings_spec ((Rd.arg hs) w' hw'))) ?_
  refine QOps.st rfl rfl (Yv.not rfl).yl ?_
  refine QOps.st rfl rfl (Yv.move rfl).yl ?_
  refine' QOps.or [_, _, _] _ (.tmp 21) rfl rfl rfl rfl rfl rfl (fun hg1 => ?_) ?_
  rotate_left
  · try replace hg1 := of_decide_eq_false hg1
    refine QOps.st rfl rfl (Yv.move rfl).yl ?_
    refine QOps.st rfl rfl (Yv.lenS el25s rfl).yl ?_
    refine QOps.st rfl rfl (Yv.eqI rfl rfl).yl ?_
    exact QOps.nil rfl
  refine QOps.nil ?_
  refine Run.cond rfl (fun hc1 => ?_) (fun hc1 => ?_)
  · try replace hc1 := of_decide_eq_true hc1
    have hn : busyOk room bs = false := by unfold busyOk; revert hc1; cases areBookings room bs <;> cases decide ((bs.length : Int) = 0) <;> simp
    refine Run.seq ?_
    refine Run.quiet (by intro h; cases h) ?_
    refine QOps.st rfl rfl (Yv.assign rfl).yl ?_
    refine QOps.st rfl rfl (Yv.assign rfl).yl ?_
    refine QOps.st rfl rfl (Yv.assign rfl).yl ?_
    refine QOps.st rfl rfl (Yv.assign rfl).yl ?_
    refine QOps.nil ?_
    refine Run.ret ?_
    refine retQ.of (.inr rfl) rfl (.tmp rfl (.tmp rfl (.tmp rfl (.tmp rfl .nil)))) (fun w' hw' => ?_)
    refine ⟨?_, hw'.bel.below⟩
    refine ret4_eq ?_ ?_ ?_ hn.symm
    · unfold busyL; rw [if_neg (by rw [hn]; simp)]
    · unfold busyS; rw [if_neg (by rw [hn]; simp)]
    · unfold busyM; rw [if_neg (by rw [hn]; simp)]
  · try replace hc1 := of_decide_eq_false hc1
    have hy : busyOk room bs = true := by unfold busyOk; revert hc1; cases areBookings room bs <;> cases decide ((bs.length : Int) = 0) <;> simp
    have hl0 : 0 < bs.length := by have h2 := hy; unfold busyOk at h2; rw [Bool.and_eq_true] at h2; have h3 := h2.2; simp at h3; exact List.length_pos_iff.2 h3
    refine Run.skip ?_
    refine Run.seq ?_
    refine Run.ops ?_
    refine SOps.st rfl rfl (Yv.move rfl).yl ?_
    refine SOps.st rfl rfl (Yv.indexAddr 0 el25 rfl rfl rfl (Rd.arg hs) (by omega)).yl ?_
    refine SOps.st rfl rfl (Yv.loadEs lay49 rfl Booking.len (Rd.arg hs) (by first | omega | (simp; omega)) (by decide)).yl ?_
    refine SOps.one rfl (One.alloc rfl zero49 (fun b1 => ?_))
    refine SOps.one rfl (One.store (i := 0) (off := 0) (vs := [_, _, _, _]) (cs' := [_, _, _, _]) (H' := [_]) lay49 rfl rfl rfl rfl rfl rfl rfl rfl rfl rfl ?_)
    refine SOps.st rfl rfl (Yv.assign rfl).yl ?_
    refine SOps.nil ?_
    refine Run.seq ?_
    refine Run.seq ?_
    refine Run.quiet (by intro h; cases h) ?_
    refine QOps.st rfl rfl (Yv.move rfl).yl ?_
    refine QOps.st rfl rfl (Yv.lenS el25s rfl).yl ?_
    refine QOps.st rfl rfl (Yv.move rfl).yl ?_
    refine QOps.nil ?_
    refine Run.block ?_
    refine Run.loop (S := Nat × Booking × Int) (fun s => match s with | (k, b, m) => k ≤ bs.length ∧ busyTo bs k = (b, m)) (fun s => match s with | (k, b, m) => [(1, .slice A bs.length c), (8, .pointer (some ⟨b1, 0, none⟩)), (9, .int .i64 m), (26, .slice A bs.length c), (27, .int .i64 (bs.length : Int)), (28, .int .i64 (k : Int))]) (fun s => match s with | (k, b, m) => [.blk b1 49 (Booking.enc b)]) (fun s => match s with | (k, b, m) => bs.length - k) (0, nth bs 0, 0) ?_ (SubE.cons rfl (SubE.cons rfl (SubE.cons rfl (SubE.cons rfl (SubE.cons rfl (SubE.cons rfl (SubE.nil _))))))) (List.Sublist.refl _) ?_
    · exact ⟨by omega, rfl⟩
    · rintro ⟨k, b, m⟩ ⟨hk, hb⟩
      show Run _ _ _ _ _ [(1, .slice A bs.length c), (8, .pointer (some ⟨b1, 0, none⟩)), (9, .int .i64 m), (26, .slice A bs.length c), (27, .int .i64 (bs.length : Int)), (28, .int .i64 (k : Int))] [.blk b1 49 (Booking.enc b)] _
      refine Run.seq ?_
      refine Run.quiet (by intro h; cases h) ?_
      refine QOps.st rfl rfl (Yv.lss rfl rfl).yl ?_
      refine QOps.nil ?_
      refine Run.seq ?_
      refine Run.cond rfl (fun hc2 => ?_) (fun hc2 => ?_)
      · try replace hc2 := of_decide_eq_true hc2
        refine Run.skip ?_
        refine Run.seq ?_
        refine Run.block ?_
        refine Run.seq ?_
        refine Run.ops ?_
        refine SOps.st rfl rfl (Yv.indexAddr k el25 rfl rfl rfl (Rd.arg hs) (by omega)).yl ?_
        refine SOps.st rfl rfl (Yv.loadEs lay49 rfl Booking.len (Rd.arg hs) (by first | omega | (simp; omega)) (by decide)).yl ?_
        refine SOps.one rfl (One.alloc rfl zero49 (fun b2 => ?_))
        refine SOps.one rfl (One.store (i := 0) (off := 0) (vs := [_, _, _, _]) (cs' := [_, _, _, _]) (H' := [_, _]) lay49 rfl rfl rfl rfl rfl rfl rfl rfl rfl rfl ?_)
        refine SOps.nil ?_
        refine Run.seq ?_
        refine Run.quiet (by intro h; cases h) ?_
        refine QOps.st rfl rfl (Yv.move rfl).yl ?_
        refine QOps.st rfl rfl (Yv.fieldAddr fld49_2 rfl).yl ?_
        refine QOps.st rfl rfl (Yv.loadB (i := 0) lay3 rfl rfl rfl rfl).yl ?_
        refine QOps.st rfl rfl (Yv.fieldAddr fld49_3 rfl).yl ?_
        refine QOps.st rfl rfl (Yv.loadB (i := 0) lay3 rfl rfl rfl rfl).yl ?_
        refine QOps.st rfl rfl (Yl.call callable55 (.cons rfl (.cons rfl (.cons rfl (.nil)))) (fun w' hw' => bookedIn_spec ((Rd.arg hs) w' hw'))) ?_
        refine QOps.st rfl rfl (Yv.assign rfl).yl ?_
        refine QOps.nil ?_
        refine Run.seq ?_
        refine Run.draws (fun H => H) (m := 16) (listed := #[false, false, false, false, false, false, false, false, false, false, false, false, false, false, false, false]) (by kernel_rfl) rfl rfl ?_
        refine DOps.take (listed' := #[true, false, false, false, false, false, false, false, false, false, false, false, false, false, false, false]) 0 rfl (by kernel_rfl) rfl (List.Sublist.refl _) rfl rfl (Yv.move rfl) ?_
        refine DOps.take (listed' := #[true, true, false, false, false, false, false, false, false, false, false, false, false, false, false, false]) 1 rfl (by kernel_rfl) rfl (List.Sublist.refl _) rfl rfl (Yv.move rfl) ?_
        refine DOps.take (listed' := #[true, true, false, true, false, false, false, false, false, false, false, false, false, false, false, false]) 3 rfl (by kernel_rfl) rfl (List.Sublist.refl _) rfl rfl (Yv.fieldAddr fld49_2 rfl) ?_
        refine DOps.take (listed' := #[true, true, false, true, true, false, false, false, false, false, false, false, false, false, false, false]) 4 rfl (by kernel_rfl) rfl (List.Sublist.refl _) rfl rfl (Yv.loadB (i := 0) lay3 rfl rfl rfl rfl) ?_
        refine DOps.take (listed' := #[true, true, false, true, true, true, false, false, false, false, false, false, false, false, false, false]) 5 rfl (by kernel_rfl) rfl (List.Sublist.refl _) rfl rfl (Yv.fieldAddr fld49_2 rfl) ?_
        refine DOps.take (listed' := #[true, true, false, true, true, true, true, false, false, false, false, false, false, false, false, false]) 6 rfl (by kernel_rfl) rfl (List.Sublist.refl _) rfl rfl (Yv.loadB (i := 1) lay3 rfl rfl rfl rfl) ?_
        refine DOps.take (listed' := #[true, true, false, true, true, true, true, false, true, false, false, false, false, false, false, false]) 8 rfl (by kernel_rfl) rfl (List.Sublist.refl _) rfl rfl (Yv.fieldAddr fld49_3 rfl) ?_
        refine DOps.take (listed' := #[true, true, false, true, true, true, true, false, true, true, false, false, false, false, false, false]) 9 rfl (by kernel_rfl) rfl (List.Sublist.refl _) rfl rfl (Yv.loadB (i := 0) lay3 rfl rfl rfl rfl) ?_
        refine DOps.take (listed' := #[true, true, false, true, true, true, true, false, true, true, true, false, false, false, false, false]) 10 rfl (by kernel_rfl) rfl (List.Sublist.refl _) rfl rfl (Yv.fieldAddr fld49_3 rfl) ?_
        refine DOps.take (listed' := #[true, true, false, true, true, true, true, false, true, true, true, true, false, false, false, false]) 11 rfl (by kernel_rfl) rfl (List.Sublist.refl _) rfl rfl (Yv.loadB (i := 1) lay3 rfl rfl rfl rfl) ?_
        refine DOps.only (listed' := #[true, true, true, true, true, true, true, false, true, true, true, true, false, false, false, false]) 2 rfl (by kernel_rfl) rfl rfl ?_
        refine One.st rfl (Yl.call callable62 (.cons rfl (.cons rfl (.nil))) (fun w' hw' => Compare_spec)) ?_
        refine ⟨(List.Sublist.refl _), ?_⟩
        refine DOps.only (listed' := #[true, true, true, true, true, true, true, true, true, true, true, true, false, false, false, false]) 7 rfl (by kernel_rfl) rfl rfl ?_
        refine One.st rfl (Yl.call callable62 (.cons rfl (.cons rfl (.nil))) (fun w' hw' => Compare_spec)) ?_
        refine ⟨(List.Sublist.refl _), ?_⟩
        refine DOps.only (listed' := #[true, true, true, true, true, true, true, true, true, true, true, true, true, false, false, false]) 12 rfl (by kernel_rfl) rfl rfl ?_
        refine One.st rfl (Yl.call callable62 (.cons rfl (.cons rfl (.nil))) (fun w' hw' => Compare_spec)) ?_
        refine ⟨(List.Sublist.refl _), ?_⟩
        refine DOps.only (listed' := #[true, true, true, true, true, true, true, true, true, true, true, true, true, true, false, false]) 13 rfl (by kernel_rfl) rfl rfl ?_
        refine One.buildSliceG (pv := [(0, _), (1, _), (2, _)]) (cs := [_, _, _]) (fun l => match l with | [a0_0, a1_0, a2_0] => [a0_0, a1_0, a2_0] | _ => []) rfl el85 (.cons rfl (.cons rfl (.cons rfl (.nil)))) rfl rfl (by kernel_rfl) rfl rfl (fun b3 => ?_)
        refine ⟨(List.Sublist.cons _ (List.Sublist.refl _)), ?_⟩
        refine DOps.only (listed' := #[true, true, true, true, true, true, true, true, true, true, true, true, true, true, true, false]) 14 rfl (by kernel_rfl) rfl rfl ?_
        refine One.st rfl (Yl.call callable61 (.cons rfl (.nil)) (fun w' hw' => Or_spec (l := [cmpI m (usedB bs (nth bs k).lock (nth bs k).slot), cmpI (nth bs k).lock b.lock, cmpI (nth bs k).slot b.slot]) (Rd.row (i := 0) rfl w' hw'))) ?_
        refine ⟨(List.Sublist.cons _ (List.Sublist.refl _)), ?_⟩
        refine DOps.take (listed' := #[true, true, true, true, true, true, true, true, true, true, true, true, true, true, true, true]) 15 rfl (by kernel_rfl) rfl (List.Sublist.cons _ (List.Sublist.refl _)) rfl rfl (Yv.assign rfl) ?_
        refine DOps.done (by kernel_rfl) ?_
        refine Run.seq ?_
        refine Run.quiet (by intro h; cases h) ?_
        refine QOps.st rfl rfl (Yv.move rfl).yl ?_
        refine QOps.st rfl rfl (Yv.lss rfl rfl).yl ?_
        refine QOps.nil ?_
        refine Run.cond rfl (fun hc3 => ?_) (fun hc3 => ?_)
        · try replace hc3 := of_decide_eq_true hc3
          refine Run.ops ?_
          refine SOps.st rfl rfl (Yv.loadBs (i := 1) lay49 rfl rfl rfl rfl).yl ?_
          refine SOps.st rfl rfl (Yv.move rfl).yl ?_
          refine SOps.one rfl (One.store (i := 2) (off := 0) (vs := [_, _, _, _]) (cs' := [_, _, _, _]) (H' := [_, _, _]) lay49 rfl rfl rfl rfl rfl rfl rfl rfl rfl rfl ?_)
          refine SOps.st rfl rfl (Yv.assign rfl).yl ?_
          refine SOps.nil ?_
          refine Run.quiet (by intro h; cases h) ?_
          refine QOps.st rfl rfl (Yv.succN rfl rfl (by omega)).yl ?_
          refine QOps.st rfl rfl (Yv.move rfl).yl ?_
          refine QOps.nil ?_
          refine ⟨(k + 1, nth bs k, _), ?_, ?_, (SubE.cons rfl (SubE.cons rfl (SubE.cons rfl (SubE.cons rfl (SubE.cons rfl (SubE.cons rfl (SubE.nil _))))))), (List.Sublist.cons _ (List.Sublist.cons _ (List.Sublist.refl _)))⟩
          · exact ⟨by omega, by rw [busyTo, hb, if_pos hc3]; rfl⟩
          · first | omega | (dsimp only; omega)
        · try replace hc3 := of_decide_eq_false hc3
          refine Run.skip ?_
          refine Run.quiet (by intro h; cases h) ?_
          refine QOps.st rfl rfl (Yv.succN rfl rfl (by omega)).yl ?_
          refine QOps.st rfl rfl (Yv.move rfl).yl ?_
          refine QOps.nil ?_
          refine ⟨(k + 1, b, m), ?_, ?_, (SubE.cons rfl (SubE.cons rfl (SubE.cons rfl (SubE.cons rfl (SubE.cons rfl (SubE.cons rfl (SubE.nil _))))))), (List.Sublist.cons _ (List.Sublist.cons _ (List.Sublist.refl _)))⟩
          · exact ⟨by omega, by rw [busyTo, hb, if_neg hc3]⟩
          · first | omega | (dsimp only; omega)
      · try replace hc2 := of_decide_eq_false hc2
        refine Run.exit ?_
        refine Run.seq ?_
        refine Run.quiet (fun _ => ⟨by kernel_rfl, by kernel_rfl⟩) ?_
        refine QOps.st rfl rfl (Yv.fieldAddr fld49_2 rfl).yl ?_
        refine QOps.st rfl rfl (Yv.loadB (i := 0) lay3 rfl rfl rfl rfl).yl ?_
        refine QOps.st rfl rfl (Yv.fieldAddr fld49_3 rfl).yl ?_
        refine QOps.st rfl rfl (Yv.loadB (i := 0) lay3 rfl rfl rfl rfl).yl ?_
        refine QOps.st rfl rfl (Yv.move rfl).yl ?_
        refine QOps.st rfl rfl (Yv.assign rfl).yl ?_
        refine QOps.st rfl rfl (Yv.assign rfl).yl ?_
        refine QOps.st rfl rfl (Yv.assign rfl).yl ?_
        refine QOps.st rfl rfl (Yv.assign rfl).yl ?_
        refine QOps.nil ?_
        refine Run.ret ?_
        obtain rfl : k = bs.length := by omega
        refine retQ.of (.inr rfl) rfl (.tmp rfl (.tmp rfl (.tmp rfl (.tmp rfl .nil)))) (fun w' hw' => ?_)
        refine ⟨?_, hw'.bel.below⟩
        refine ret4_eq ?_ ?_ ?_ hy.symm
        · unfold busyL; rw [if_pos hy, hb]
        · unfold busyS; rw [if_pos hy, hb]
        · unfold busyM; rw [if_pos hy, hb]
theorem sBusySlot_spec {w : World} {A : Option Addr} {c : Nat} {room : Int} {bs : List Booking} (hs : Sl w 4 A bs.length c (bs.flatMap Booking.enc)) : Calls Try.prog 21 #[.int .i64 room, .slice A bs.length c] w (RetB w (.tuple #[.int .i64 (busyL room bs), .int .i64 (busyS room bs), .int .i64 (busyM room bs), .bool (busyOk room bs)])) := by
  have hmx := Sl.lenle hs
  refine calls_of_run (vs := [_, _]) (L := [(0, _), (1, _)]) (n := 44) (F := []) (H := []) Try.func21 rfl rfl rfl rfl (HOk.start _) ?_
  refine Run.seq ?_
  refine Run.quiet (by intro h; cases h) ?_
  refine QOps.st rfl rfl (Yv.assign rfl).yl ?_
  refine QOps.st rfl rfl (Yv.assign rfl).yl ?_
  refine QOps.st rfl rfl (Yv.assign rfl).yl ?_
  refine QOps.st rfl rfl (Yv.assign rfl).yl ?_
  refine QOps.nil ?_
  refine Run.seq ?_
  refine Run.seq ?_
  refine Run.quiet (by intro h; cases h) ?_
  refine QOps.st rfl rfl (Yv.move rfl).yl ?_
  refine QOps.st rfl rfl (Yv.move rfl).yl ?_
  refine QOps.st rfl rfl (Yl.call callable50 (.cons rfl (.cons rfl (.nil))) (fun w' hw' => l18Good_spec ((Rd.arg hs) w' hw'))) ?_
  refine QOps.st rfl rfl (Yv.not rfl).yl ?_
  refine QOps.st rfl rfl (Yv.move rfl).yl ?_
  refine' QOps.or [_, _, _] _ (.tmp 21) rfl rfl rfl rfl rfl rfl (fun hg1 => ?_) ?_
  rotate_left
  · try replace hg1 := of_decide_eq_false hg1
    refine QOps.st rfl rfl (Yv.move rfl).yl ?_
    refine QOps.st rfl rfl (Yv.lenS el25s rfl).yl ?_
    refine QOps.st rfl rfl (Yv.eqI rfl rfl).yl ?_
    exact QOps.nil rfl
  refine QOps.nil ?_
  refine Run.cond rfl (fun hc1 => ?_) (fun hc1 => ?_)
  · try replace hc1 := of_decide_eq_true hc1
    have hn : busyOk room bs = false := by unfold busyOk; revert hc1; cases areBookings room bs <;> cases decide ((bs.length : Int) = 0) <;> simp
    refine Run.seq ?_
    refine Run.quiet (by intro h; cases h) ?_
    refine QOps.st rfl rfl (Yv.assign rfl).yl ?_
    refine QOps.st rfl rfl (Yv.assign rfl).yl ?_
    refine QOps.st rfl rfl (Yv.assign rfl).yl ?_
    refine QOps.st rfl rfl (Yv.assign rfl).yl ?_
    refine QOps.nil ?_
    refine Run.ret ?_
    refine retQ.of (.inr rfl) rfl (.tmp rfl (.tmp rfl (.tmp rfl (.tmp rfl .nil)))) (fun w' hw' => ?_)
    refine ⟨?_, hw'.bel.below⟩
    refine ret4_eq ?_ ?_ ?_ hn.symm
    · unfold busyL; rw [if_neg (by rw [hn]; simp)]
    · unfold busyS; rw [if_neg (by rw [hn]; simp)]
    · unfold busyM; rw [if_neg (by rw [hn]; simp)]
  · try replace hc1 := of_decide_eq_false hc1
    have hy : busyOk room bs = true := by unfold busyOk; revert hc1; cases areBookings room bs <;> cases decide ((bs.length : Int) = 0) <;> simp
    have hA : areBookings room bs = true := by have h2 := hy; unfold busyOk at h2; rw [Bool.and_eq_true] at h2; exact h2.1
    have hl0 : 0 < bs.length := by have h2 := hy; unfold busyOk at h2; rw [Bool.and_eq_true] at h2; have h3 := h2.2; simp at h3; exact List.length_pos_iff.2 h3
    refine Run.skip ?_
    refine Run.seq ?_
    refine Run.quiet (by intro h; cases h) ?_
    refine QOps.st rfl rfl (Yv.assign rfl).yl ?_
    refine QOps.st rfl rfl (Yv.assign rfl).yl ?_
    refine QOps.st rfl rfl (Yv.assign rfl).yl ?_
    refine QOps.nil ?_
    refine Run.seq ?_
    refine Run.seq ?_
    refine Run.quiet (by intro h; cases h) ?_
    refine QOps.st rfl rfl (Yv.assign rfl).yl ?_
    refine QOps.nil ?_
    refine Run.block ?_
    refine Run.loop (S := Nat × Int × Int × Int) (fun s => match s with | (i, l, s, m) => i ≤ 5 ∧ BestTo bs (i : Int) 0 l s m) (fun s => match s with | (i, l, s, m) => [(1, .slice A bs.length c), (8, .int .i64 l), (9, .int .i64 s), (10, .int .i64 m), (11, .int .i64 (i : Int))]) (fun s => match s with | (i, l, s, m) => []) (fun s => match s with | (i, l, s, m) => 5 - i) (0, 0, 0, 0) ?_ (SubE.cons rfl (SubE.cons rfl (SubE.cons rfl (SubE.cons rfl (SubE.cons rfl (SubE.nil _)))))) (List.Sublist.refl _) ?_
    · exact ⟨by omega, BestTo.start⟩
    · rintro ⟨i, l, s, m⟩ ⟨hi, hB⟩
      show Run _ _ _ _ _ [(1, .slice A bs.length c), (8, .int .i64 l), (9, .int .i64 s), (10, .int .i64 m), (11, .int .i64 (i : Int))] [] _
      refine Run.seq ?_
      refine Run.seq ?_
      refine Run.quiet (by intro h; cases h) ?_
      refine QOps.st rfl rfl (Yv.move rfl).yl ?_
      refine QOps.st rfl rfl (Yv.leq rfl rfl).yl ?_
      refine QOps.nil ?_
      refine Run.cond rfl (fun hc2 => ?_) (fun hc2 => ?_)
      · try replace hc2 := of_decide_eq_true hc2
        refine Run.skip ?_
        refine Run.seq ?_
        refine Run.block ?_
        refine Run.seq ?_
        refine Run.quiet (by intro h; cases h) ?_
        refine QOps.st rfl rfl (Yv.assign rfl).yl ?_
        refine QOps.nil ?_
        refine Run.block ?_
        refine Run.loop (S := Nat × Int × Int × Int) (fun s => match s with | (k, l, s, m) => k ≤ 48 ∧ BestTo bs (i : Int) (k : Int) l s m) (fun s => match s with | (k, l, s, m) => [(1, .slice A bs.length c), (8, .int .i64 l), (9, .int .i64 s), (10, .int .i64 m), (11, .int .i64 (i : Int)), (12, .int .i64 (k : Int))]) (fun s => match s with | (k, l, s, m) => []) (fun s => match s with | (k, l, s, m) => 48 - k) (0, l, s, m) ?_ (SubE.cons rfl (SubE.cons rfl (SubE.cons rfl (SubE.cons rfl (SubE.cons rfl (SubE.cons rfl (SubE.nil _))))))) (List.Sublist.refl _) ?_
        · exact ⟨by omega, hB⟩
        · rintro ⟨k, l, s, m⟩ ⟨hk, hB⟩
          show Run _ _ _ _ _ [(1, .slice A bs.length c), (8, .int .i64 l), (9, .int .i64 s), (10, .int .i64 m), (11, .int .i64 (i : Int)), (12, .int .i64 (k : Int))] [] _
          refine Run.seq ?_
          refine Run.seq ?_
          refine Run.quiet (by intro h; cases h) ?_
          refine QOps.st rfl rfl (Yv.move rfl).yl ?_
          refine QOps.st rfl rfl (Yv.lss rfl rfl).yl ?_
          refine QOps.nil ?_
          refine Run.cond rfl (fun hc3 => ?_) (fun hc3 => ?_)
          · try replace hc3 := of_decide_eq_true hc3
            refine Run.skip ?_
            refine Run.seq ?_
            refine Run.block ?_
            refine Run.seq ?_
            refine Run.quiet (by intro h; cases h) ?_
            refine QOps.st rfl rfl (Yv.move rfl).yl ?_
            refine QOps.st rfl rfl (Yv.move rfl).yl ?_
            refine QOps.st rfl rfl (Yv.move rfl).yl ?_
            refine QOps.st rfl rfl (Yl.call callable60 (.cons rfl (.cons rfl (.cons rfl (.nil)))) (fun w' hw' => l18Used_spec ((Rd.arg hs) w' hw'))) ?_
            refine QOps.st rfl rfl (Yv.assign rfl).yl ?_
            refine QOps.nil ?_
            refine Run.seq ?_
            refine Run.quiet (by intro h; cases h) ?_
            refine QOps.st rfl rfl (Yv.move rfl).yl ?_
            refine QOps.st rfl rfl (Yv.move rfl).yl ?_
            refine QOps.st rfl rfl (Yv.gtr rfl rfl).yl ?_
            refine QOps.nil ?_
            refine Run.cond rfl (fun hc4 => ?_) (fun hc4 => ?_)
            · try replace hc4 := of_decide_eq_true hc4
              refine Run.seq ?_
              refine Run.quiet (by intro h; cases h) ?_
              refine QOps.st rfl rfl (Yv.move rfl).yl ?_
              refine QOps.st rfl rfl (Yv.assign rfl).yl ?_
              refine QOps.nil ?_
              refine Run.seq ?_
              refine Run.quiet (by intro h; cases h) ?_
              refine QOps.st rfl rfl (Yv.move rfl).yl ?_
              refine QOps.st rfl rfl (Yv.assign rfl).yl ?_
              refine QOps.nil ?_
              refine Run.quiet (by intro h; cases h) ?_
              refine QOps.st rfl rfl (Yv.move rfl).yl ?_
              refine QOps.st rfl rfl (Yv.assign rfl).yl ?_
              refine QOps.nil ?_
              refine Run.quiet (by intro h; cases h) ?_
              refine QOps.st rfl rfl (Yv.move rfl).yl ?_
              refine QOps.st rfl rfl (Yv.succN rfl rfl (by omega)).yl ?_
              refine QOps.st rfl rfl (Yv.assign rfl).yl ?_
              refine QOps.nil ?_
              refine ⟨(k + 1, _, _, _), ?_, ?_, (SubE.cons rfl (SubE.cons rfl (SubE.cons rfl (SubE.cons rfl (SubE.cons rfl (SubE.cons rfl (SubE.nil _))))))), (List.Sublist.refl _)⟩
              · exact ⟨by omega, hB.yes ⟨by omega, by omega⟩ ⟨by omega, by omega⟩ hc4⟩
              · first | omega | (dsimp only; omega)
            · try replace hc4 := of_decide_eq_false hc4
              refine Run.skip ?_
              refine Run.quiet (by intro h; cases h) ?_
              refine QOps.st rfl rfl (Yv.move rfl).yl ?_
              refine QOps.st rfl rfl (Yv.succN rfl rfl (by omega)).yl ?_
              refine QOps.st rfl rfl (Yv.assign rfl).yl ?_
              refine QOps.nil ?_
              refine ⟨(k + 1, l, s, m), ?_, ?_, (SubE.cons rfl (SubE.cons rfl (SubE.cons rfl (SubE.cons rfl (SubE.cons rfl (SubE.cons rfl (SubE.nil _))))))), (List.Sublist.refl _)⟩
              · exact ⟨by omega, hB.no hc4⟩
              · first | omega | (dsimp only; omega)
          · try replace hc3 := of_decide_eq_false hc3
            refine Run.exit ?_
            refine Run.quiet (by intro h; cases h) ?_
            refine QOps.st rfl rfl (Yv.move rfl).yl ?_
            refine QOps.st rfl rfl (Yv.succN rfl rfl (by omega)).yl ?_
            refine QOps.st rfl rfl (Yv.assign rfl).yl ?_
            refine QOps.nil ?_
            obtain rfl : k = 48 := by omega
            refine ⟨(i + 1, _, _, _), ?_, ?_, (SubE.cons rfl (SubE.cons rfl (SubE.cons rfl (SubE.cons rfl (SubE.cons rfl (SubE.nil _)))))), (List.Sublist.refl _)⟩
            · exact ⟨by omega, hB.row⟩
            · first | omega | (dsimp only; omega)
      · try replace hc2 := of_decide_eq_false hc2
        refine Run.exit ?_
        refine Run.seq ?_
        refine Run.quiet (by intro h; cases h) ?_
        refine QOps.st rfl rfl (Yv.move rfl).yl ?_
        refine QOps.st rfl rfl (Yv.move rfl).yl ?_
        refine QOps.st rfl rfl (Yv.move rfl).yl ?_
        refine QOps.st rfl rfl (Yv.assign rfl).yl ?_
        refine QOps.st rfl rfl (Yv.assign rfl).yl ?_
        refine QOps.st rfl rfl (Yv.assign rfl).yl ?_
        refine QOps.st rfl rfl (Yv.assign rfl).yl ?_
        refine QOps.nil ?_
        refine Run.ret ?_
        obtain rfl : i = 5 := by omega
        obtain ⟨e1, e2, e3⟩ := (hB.busy hA hl0).one (busy_impl hA hl0)
        refine retQ.of (.inr rfl) rfl (.tmp rfl (.tmp rfl (.tmp rfl (.tmp rfl .nil)))) (fun w' hw' => ?_)
        refine ⟨?_, hw'.bel.below⟩
        refine ret4_eq ?_ ?_ ?_ hy.symm
        · unfold busyL; rw [if_pos hy, e1]
        · unfold busyS; rw [if_pos hy, e2]
        · unfold busyM; rw [if_pos hy, e3]
theorem FnExactBusySlot_spec {w : World} {A : Option Addr} {c : Nat} {bs : List Booking} {room : Int} (hs : Sl w 4 A bs.length c (bs.flatMap Booking.enc)) (hb : 32 * bs.length ≤ 281474976710656) :
    Calls Try.prog 5 #[.int .i64 room, .slice A bs.length c] w (RetB w (.bool true)) := by
  refine calls_of_run (vs := [_, _]) (L := [(0, _), (1, _)]) (n := 62) (F := []) (H := []) Try.func5 rfl rfl rfl rfl (HOk.start _) ?_
  refine Run.seq ?_
  refine Run.quiet (by intro h; cases h) ?_
  refine QOps.st rfl rfl (Yv.assign rfl).yl ?_
  refine QOps.nil ?_
  refine Run.seq ?_
  refine Run.quiet (by intro h; cases h) ?_
  refine QOps.st rfl rfl (Yv.assign rfl).yl ?_
  refine QOps.nil ?_
  refine Run.seq ?_
  refine Run.quiet (by intro h; cases h) ?_
  refine QOps.st rfl rfl (Yv.move rfl).yl ?_
  refine QOps.st rfl rfl (Yv.move rfl).yl ?_
  refine QOps.st rfl rfl (Yl.call callable14 (.cons rfl (.cons rfl (.nil))) (fun w' hw' => szBookingS_spec (by omega) (by omega) (by omega))) ?_
  refine QOps.st rfl rfl (Yv.assign rfl).yl ?_
  refine QOps.nil ?_
  refine Run.seq ?_
  refine Run.seq ?_
  refine Run.quiet (by intro h; cases h) ?_
  refine QOps.st rfl rfl (Yv.move rfl).yl ?_
  refine QOps.st rfl rfl (Yv.lss rfl rfl).yl ?_
  refine QOps.nil ?_
  refine Run.cond rfl (fun hc1 => ?_) (fun hc1 => ?_)
  · try replace hc1 := of_decide_eq_true hc1
    refine Run.seq ?_
    refine Run.quiet (by intro h; cases h) ?_
    refine QOps.st rfl rfl (Yv.assign rfl).yl ?_
    refine QOps.nil ?_
    refine Run.ret ?_
    refine retQ.of (.inr rfl) rfl (.tmp rfl .nil) (fun w' hw' => ?_)
    refine ⟨?_, hw'.bel.below⟩
    exact rfl
  · try replace hc1 := of_decide_eq_false hc1
    refine Run.skip ?_
    refine Run.seq ?_
    refine Run.ops ?_
    refine SOps.st rfl rfl (Yv.move rfl).yl ?_
    refine SOps.st rfl rfl (Yv.move rfl).yl ?_
    refine SOps.one rfl (One.callRow rfl callable16 (.cons rfl (.nil)) (fun w' hw' => toBookingS_spec ((Rd.arg hs) w' hw') (by omega)) (fun A1 c1 => ?_))
    refine SOps.st rfl rfl (Yl.call callable21 (.cons rfl (.cons rfl (.nil))) (fun w' hw' => sBusySlot_spec ((Rd.row (i := 0) rfl) w' hw'))) ?_
    refine SOps.st rfl rfl (Yv.move rfl).yl ?_
    refine SOps.st rfl rfl (Yv.extract rfl rfl).yl ?_
    refine SOps.st rfl rfl (Yv.extract rfl rfl).yl ?_
    refine SOps.st rfl rfl (Yv.extract rfl rfl).yl ?_
    refine SOps.st rfl rfl (Yv.extract rfl rfl).yl ?_
    refine SOps.st rfl rfl (Yv.assign rfl).yl ?_
    refine SOps.st rfl rfl (Yv.assign rfl).yl ?_
    refine SOps.st rfl rfl (Yv.assign rfl).yl ?_
    refine SOps.st rfl rfl (Yv.assign rfl).yl ?_
    refine SOps.nil ?_
    refine Run.seq ?_
    refine Run.ops ?_
    refine SOps.st rfl rfl (Yv.move rfl).yl ?_
    refine SOps.one rfl (One.callRow rfl callable16 (.cons rfl (.nil)) (fun w' hw' => toBookingS_spec ((Rd.arg hs) w' hw') (by omega)) (fun A2 c2 => ?_))
    refine SOps.st rfl rfl (Yv.assign rfl).yl ?_
    refine SOps.nil ?_
    refine Run.seq ?_
    refine Run.quiet (by intro h; cases h) ?_
    refine QOps.st rfl rfl (Yv.move rfl).yl ?_
    refine QOps.st rfl rfl (Yv.move rfl).yl ?_
    refine QOps.st rfl rfl (Yl.call callable22 (.cons rfl (.cons rfl (.nil))) (fun w' hw' => BusySlot_spec ((Rd.row (i := 0) rfl) w' hw'))) ?_
    refine QOps.st rfl rfl (Yv.move rfl).yl ?_
    refine QOps.st rfl rfl (Yv.extract rfl rfl).yl ?_
    refine QOps.st rfl rfl (Yv.extract rfl rfl).yl ?_
    refine QOps.st rfl rfl (Yv.extract rfl rfl).yl ?_
    refine QOps.st rfl rfl (Yv.extract rfl rfl).yl ?_
    refine QOps.st rfl rfl (Yv.assign rfl).yl ?_
    refine QOps.st rfl rfl (Yv.assign rfl).yl ?_
    refine QOps.st rfl rfl (Yv.assign rfl).yl ?_
    refine QOps.st rfl rfl (Yv.assign rfl).yl ?_
    refine QOps.nil ?_
    refine Run.seq ?_
    refine Run.seq ?_
    refine Run.quiet (by intro h; cases h) ?_
    refine QOps.st rfl rfl (Yv.move rfl).yl ?_
    refine QOps.st rfl rfl (Yv.move rfl).yl ?_
    refine QOps.st rfl rfl (Yv.neI rfl rfl).yl ?_
    refine QOps.st rfl rfl (Yv.move rfl).yl ?_
    refine' QOps.or [_, _, _] _ (.tmp 45) rfl rfl rfl rfl rfl rfl (fun hg1 => ?_) ?_
    rotate_left
    · try replace hg1 := of_decide_eq_false hg1
      refine QOps.st rfl rfl (Yv.move rfl).yl ?_
      refine QOps.st rfl rfl (Yv.move rfl).yl ?_
      refine QOps.st rfl rfl (Yv.neI rfl rfl).yl ?_
      exact QOps.nil rfl
    refine QOps.st rfl rfl (Yv.move rfl).yl ?_
    refine' QOps.or [_, _, _] _ (.tmp 50) rfl rfl rfl rfl rfl rfl (fun hg2 => ?_) ?_
    rotate_left
    · try replace hg2 := of_decide_eq_false hg2
      refine QOps.st rfl rfl (Yv.move rfl).yl ?_
      refine QOps.st rfl rfl (Yv.move rfl).yl ?_
      refine QOps.st rfl rfl (Yv.neI rfl rfl).yl ?_
      exact QOps.nil rfl
    refine QOps.st rfl rfl (Yv.move rfl).yl ?_
    refine' QOps.or [_, _, _] _ (.tmp 55) rfl rfl rfl rfl rfl rfl (fun hg3 => ?_) ?_
    rotate_left
    · try replace hg3 := of_decide_eq_false hg3
      refine QOps.st rfl rfl (Yv.move rfl).yl ?_
      refine QOps.st rfl rfl (Yv.move rfl).yl ?_
      refine QOps.st rfl rfl (Yv.neB bool4 rfl rfl).yl ?_
      exact QOps.nil rfl
    refine QOps.nil ?_
    refine Run.cond rfl (fun hc2 => ?_) (fun hc2 => ?_)
    · exfalso
      first | (simp at hc2; done) | (simp at hc2; omega) | omega
    · try replace hc2 := of_decide_eq_false hc2
      refine Run.skip ?_
      refine Run.seq ?_
      refine Run.seq ?_
      refine Run.ops ?_
      refine SOps.st rfl rfl (Yv.move rfl).yl ?_
      refine SOps.st rfl rfl (Yv.move rfl).yl ?_
      refine SOps.one rfl (One.callRow rfl callable16 (.cons rfl (.nil)) (fun w' hw' => toBookingS_spec ((Rd.arg hs) w' hw') (by omega)) (fun A3 c3 => ?_))
      refine SOps.st rfl rfl (Yl.call callable18 (.cons rfl (.cons rfl (.nil))) (fun w' hw' => eqBookingS_spec ((Rd.row (i := 1) rfl) w' hw') ((Rd.row (i := 0) rfl) w' hw'))) ?_
      refine SOps.st rfl rfl (Yv.not rfl).yl ?_
      refine SOps.nil ?_
      refine Run.cond rfl (fun hc3 => ?_) (fun hc3 => ?_)
      · exfalso
        first | (simp at hc3; done) | (simp at hc3; omega) | omega
      · try replace hc3 := of_decide_eq_false hc3
        refine Run.skip ?_
        refine Run.seq ?_
        refine Run.quiet (by intro h; cases h) ?_
        refine QOps.st rfl rfl (Yv.assign rfl).yl ?_
        refine QOps.nil ?_
        refine Run.ret ?_
        refine retQ.of (.inr rfl) rfl (.tmp rfl .nil) (fun w' hw' => ?_)
        refine ⟨?_, hw'.bel.below⟩
        exact rfl

end Go.Proofs.Ythgekachgpcjbaa
