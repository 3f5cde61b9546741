/- Bookings: does a voyage go upward; the laws of a vessel's slots. Conditions: none. -/
import Derived.Test.YthgekachgpcjbaaBooB
namespace Go.Proofs.Ythgekachgpcjbaa
open Go.RowKit
set_option maxRecDepth 100000
section
variable {α : Type} [Inhabited α] {lt : α → α → Bool}
theorem posL_above {x : α} {o : List α} : ∀ {k j : Nat}, posL lt x o k ≤ j → j < k → lt x (nth o j) = true
  | 0, _, _, h => by omega
  | k + 1, j, h1, h2 => by
    rw [posL] at h1
    split at h1
    · rename_i h3
      rcases Nat.lt_or_ge j k with h4 | h4
      · exact posL_above h1 h4
      · obtain rfl : j = k := by omega
        exact h3
    · omega
theorem posL_below {x : α} {o : List α} : ∀ {k : Nat}, 0 < posL lt x o k → lt x (nth o (posL lt x o k - 1)) = false
  | 0, h => by simp [posL] at h
  | k + 1, h => by
    rw [posL] at h ⊢
    split
    · rename_i h3
      rw [if_pos h3] at h
      exact posL_below h
    · rename_i h3
      rw [show k + 1 - 1 = k from rfl]
      simpa using h3
/-- No two neighbours stand the wrong way round. -/
def Adj (lt : α → α → Bool) (s : List α) : Prop := ∀ i, i + 1 < s.length → lt (nth s (i + 1)) (nth s i) = false
theorem insL_nth {o : List α} {x : α} {q i : Nat} (hq : posL lt x o o.length = q) : nth (insL lt o x) i = if i < q then nth o i else if i = q then x else nth o (i - 1) := by
  have hle : q ≤ o.length := hq ▸ posL_le
  unfold insL
  rw [hq]
  have e : (o.take q ++ [x] ++ o.drop q)[i]? = if i < q then o[i]? else if i = q then some x else o[i - 1]? := by
    have hl : (o.take q).length = q := by simp; omega
    split
    · rw [List.append_assoc, List.getElem?_append_left (by omega), List.getElem?_take, if_pos (by assumption)]
    · split
      · rename_i h
        subst h
        rw [List.append_assoc, List.getElem?_append_right (by omega), hl, Nat.sub_self]
        rfl
      · rw [List.getElem?_append_right (by simp; omega), List.getElem?_drop]
        congr 1
        simp
        omega
  unfold nth
  simp only [List.getD_eq_getElem?_getD, e]
  split
  · rfl
  · split <;> rfl
theorem insL_adj {o : List α} {x : α} (has : ∀ x y, lt x y = true → lt y x = false) (h : Adj lt o) : Adj lt (insL lt o x) := fun i hi => by
  rw [insL_len] at hi
  rw [insL_nth rfl, insL_nth rfl]
  have hle : posL lt x o o.length ≤ o.length := posL_le
  by_cases h1 : i + 1 < posL lt x o o.length
  · rw [if_pos h1, if_pos (by omega)]
    exact h i (by omega)
  · by_cases h2 : i + 1 = posL lt x o o.length
    · rw [if_neg h1, if_pos h2, if_pos (by omega)]
      have h3 := posL_below (lt := lt) (x := x) (o := o) (k := o.length) (by omega)
      rw [← h2] at h3
      exact h3
    · by_cases h4 : i = posL lt x o o.length
      · rw [if_neg h1, if_neg h2, if_neg (by omega), if_pos h4, show i + 1 - 1 = i from rfl]
        exact has _ _ (posL_above (k := o.length) (by omega) (by omega))
      · rw [if_neg h1, if_neg h2, if_neg (by omega), if_neg h4, show i + 1 - 1 = i from rfl]
        have h5 := h (i - 1) (by omega)
        rwa [show i - 1 + 1 = i by omega] at h5
theorem srtL_adj {l : List α} (has : ∀ x y, lt x y = true → lt y x = false) : ∀ k, Adj lt (srtL lt l k)
  | 0 => fun i hi => by simp [srtL] at hi
  | k + 1 => insL_adj has (srtL_adj has k)
end
theorem lt2_asymm (x y : List Int) (h : lt2 x y = true) : lt2 y x = false := by
  simp [lt2] at h ⊢
  omega
theorem pairsTo_mem {bs : List Booking} {v : Int} : ∀ {k : Nat} {x : List Int}, x ∈ pairsTo bs v k → ∃ i, i < k ∧ (nth bs i).vessel = v ∧ x = [(nth bs i).lock, (nth bs i).slot]
  | 0, x, h => by simp [pairsTo] at h
  | k + 1, x, h => by
    rw [pairsTo] at h
    split at h
    · rename_i hv
      rcases List.mem_append.1 h with h | h
      · obtain ⟨i, h1, h2, h3⟩ := pairsTo_mem h
        exact ⟨i, by omega, h2, h3⟩
      · rw [List.mem_singleton] at h
        exact ⟨k, by omega, hv, h⟩
    · obtain ⟨i, h1, h2, h3⟩ := pairsTo_mem h
      exact ⟨i, by omega, h2, h3⟩
theorem pairs_nodup {bs : List Booking} {v : Int} (hd : ∀ i j, i < j → j < bs.length → sameB (nth bs j) (nth bs i) = false) : ∀ {k : Nat}, k ≤ bs.length → ((pairsTo bs v k).map (fun x => nth x 0)).Nodup
  | 0, _ => by simp [pairsTo]
  | k + 1, h => by
    rw [pairsTo]
    split
    · rename_i hv
      rw [List.map_append]
      refine List.nodup_append.2 ⟨pairs_nodup hd (by omega), by simp, fun a ha b hb hab => ?_⟩
      obtain ⟨x, hx, rfl⟩ := List.mem_map.1 ha
      obtain ⟨i, h1, h2, rfl⟩ := pairsTo_mem hx
      simp only [List.map_cons, List.map_nil, List.mem_singleton] at hb
      subst hb
      have h3 := hd i k h1 (by omega)
      have h4 : (nth bs i).lock = (nth bs k).lock := hab
      simp [sameB, h2, hv, h4] at h3
    · exact pairs_nodup hd (by omega)
theorem are_nodup {room : Int} {bs : List Booking} (h : areBookings room bs = true) : ∀ i j, i < j → j < bs.length → sameB (nth bs j) (nth bs i) = false := fun i j hij hj => by
  have h1 := (are_parts h).2.2 j hj
  unfold badB at h1
  simp only [Bool.or_eq_false_iff] at h1
  have h2 := h1.2
  unfold dupB at h2
  have h3 : allTo j (fun i => !sameB (nth bs j) (nth bs i)) = true := by simpa using h2
  simpa using allTo_iff.1 h3 i hij
/-- Two neighbours of a vessel's pairs. -/
theorem voyS_next {room v : Int} {bs : List Booking} (h : areBookings room bs = true) {i : Nat} (hi : i + 1 < (voyS bs v bs.length).length) :
    nth (nth (voyS bs v bs.length) i) 1 ≤ nth (nth (voyS bs v bs.length) (i + 1)) 1 ∧ nth (nth (voyS bs v bs.length) i) 0 ≠ nth (nth (voyS bs v bs.length) (i + 1)) 0 := by
  have h1 : Adj lt2 (voyS bs v bs.length) := srtL_adj lt2_asymm _
  have h2 := h1 i hi
  have hp := srtL_perm (lt := lt2) (l := pairsTo bs v bs.length) (Nat.le_refl _)
  rw [List.take_length] at hp
  have h3 : ((voyS bs v bs.length).map (fun x => nth x 0)).Nodup := (hp.map _).nodup_iff.1 (pairs_nodup (are_nodup h) (Nat.le_refl _))
  refine ⟨?_, fun h4 => ?_⟩
  · simp [lt2] at h2
    omega
  · have h5 := List.pairwise_iff_getElem.1 h3 i (i + 1) (by simp; omega) (by simpa using hi) (by omega)
    apply h5
    simp only [List.getElem_map]
    have e1 : nth (voyS bs v bs.length) i = (voyS bs v bs.length)[i] := by simp [nth, show i < (voyS bs v bs.length).length by omega]
    have e2 : nth (voyS bs v bs.length) (i + 1) = (voyS bs v bs.length)[i + 1] := by simp [nth, hi]
    rw [← e1, ← e2]
    exact h4
theorem voyL_ten {room v : Int} {bs : List Booking} : (voyL room bs v).length ≤ 10 := by
  unfold voyL
  split
  · rename_i h
    unfold voyOk at h
    rw [Bool.and_eq_true] at h
    have h1 := (are_parts h.1).2.1
    have h2 : (voyS bs v bs.length).length ≤ bs.length := by rw [voyS_len]; exact pairsTo_len
    omega
  · simp
def goodP (s : List (List Int)) (j : Nat) : Bool := decide (nth (nth s j) 0 < nth (nth s (j + 1)) 0) && decide (nth (nth s j) 1 < nth (nth s (j + 1)) 1)
/-- Do the pairs go upward? -/
def upward (s : List (List Int)) : Bool := allTo (s.length - 1) (goodP s)
def upB (room : Int) (bs : List Booking) (v : Int) : Bool := voyOk room bs v && upward (voyL room bs v)
theorem goodP_rs {rs : List (InR Int)} {i : Nat} (h1 : 1 ≤ i) (hi : i < rs.length) : goodP (rs.map InR.l) (i - 1) = (decide (nth (nth rs (i - 1)).l 0 < nth (nth rs i).l 0) && decide (nth (nth rs (i - 1)).l 1 < nth (nth rs i).l 1)) := by
  unfold goodP
  rw [show i - 1 + 1 = i by omega, nth_mapl (by omega), nth_mapl hi]
theorem up_rs {rs : List (InR Int)} {room v : Int} {bs : List Booking} (hrs : rs.map InR.l = voyL room bs v) (hy : voyOk room bs v = true) {i : Nat} (h1 : 1 ≤ i) (hi : i < rs.length) :
    nth (nth rs (i - 1)).l 1 ≤ nth (nth rs i).l 1 ∧ nth (nth rs (i - 1)).l 0 ≠ nth (nth rs i).l 0 := by
  have hA : areBookings room bs = true := by have h2 := hy; unfold voyOk at h2; rw [Bool.and_eq_true] at h2; exact h2.1
  have e : rs.map InR.l = voyS bs v bs.length := by rw [hrs]; unfold voyL; rw [if_pos hy]
  have hl : (voyS bs v bs.length).length = rs.length := by rw [← e]; simp
  have h2 := voyS_next (v := v) hA (i := i - 1) (by omega)
  rw [← e, show i - 1 + 1 = i by omega, nth_mapl (by omega), nth_mapl hi] at h2
  exact h2
theorem up_no {room v : Int} {bs : List Booking} {rs : List (InR Int)} (hrs : rs.map InR.l = voyL room bs v) {i : Nat} (h1 : 1 ≤ i) (hi : i < rs.length) (h : goodP (rs.map InR.l) (i - 1) = false) : upB room bs v = false := by
  unfold upB upward
  rw [← hrs, allTo_false (i := i - 1) (by simp; omega) h]
  simp
theorem up_yes {room v : Int} {bs : List Booking} {rs : List (InR Int)} (hrs : rs.map InR.l = voyL room bs v) (hy : voyOk room bs v = true) (h : ∀ j, j + 1 < rs.length → goodP (rs.map InR.l) j = true) : upB room bs v = true := by
  unfold upB upward
  rw [hy, ← hrs, allTo_iff.2 (fun j hj => h j (by simp at hj; omega))]
  rfl
theorem IsUpward_spec {w : World} {A : Option Addr} {c : Nat} {room v : Int} {bs : List Booking} (hs : Sl w 4 A bs.length c (bs.flatMap Booking.enc)) (hl10 : bs.length ≤ 1048576) :
    Calls Try.prog 40 #[.int .i64 room, .slice A bs.length c, .int .i64 v] w (RetB w (.tuple #[.bool (upB room bs v), .bool (voyOk room bs v)])) := by
  have hmx := Sl.lenle hs
  have hvl := voyL_len (room := room) (bs := bs) (v := v)
  refine calls_of_run (vs := [_, _, _]) (L := [(0, _), (1, _), (2, _)]) (n := 56) (F := []) (H := []) Try.func40 rfl rfl rfl rfl (HOk.start _) ?_
  refine Run.seq ?_
  refine Run.quiet (by intro h; cases h) ?_
  refine QOps.st rfl rfl (Yv.assign rfl).yl ?_
  refine QOps.st rfl rfl (Yv.assign rfl).yl ?_
  refine QOps.nil ?_
  refine Run.seq ?_
  refine Run.ops ?_
  refine SOps.st rfl rfl (Yv.move rfl).yl ?_
  refine SOps.st rfl rfl (Yv.move rfl).yl ?_
  refine SOps.st rfl rfl (Yv.move rfl).yl ?_
  refine SOps.one rfl (One.callTabT (H1 := []) (rs0 := ([] : List (InR Int))) rfl callable42 (.cons rfl (.cons rfl (.cons rfl (.nil)))) (fun w' hw' => VoyageSlots_spec ((Rd.arg hs) w' hw')) ?_)
  rintro At1 ct1 rs1 hrs1
  refine SOps.st rfl rfl (Yv.move rfl).yl ?_
  refine SOps.st rfl rfl (Yv.extract rfl rfl).yl ?_
  refine SOps.st rfl rfl (Yv.extract rfl rfl).yl ?_
  refine SOps.st rfl rfl (Yv.assign rfl).yl ?_
  refine SOps.st rfl rfl (Yv.assign rfl).yl ?_
  refine SOps.nil ?_
  refine Run.seq ?_
  refine Run.seq ?_
  refine Run.quiet (by intro h; cases h) ?_
  refine QOps.st rfl rfl (Yv.move rfl).yl ?_
  refine QOps.st rfl rfl (Yv.not rfl).yl ?_
  refine QOps.nil ?_
  refine Run.cond rfl (fun hc1 => ?_) (fun hc1 => ?_)
  · try replace hc1 := of_decide_eq_true hc1
    have hn : voyOk room bs v = false := by simpa using hc1
    refine Run.seq ?_
    refine Run.quiet (by intro h; cases h) ?_
    refine QOps.st rfl rfl (Yv.assign rfl).yl ?_
    refine QOps.st rfl rfl (Yv.assign rfl).yl ?_
    refine QOps.nil ?_
    refine Run.ret ?_
    refine retQ.of (.inr rfl) rfl (.tmp rfl (.tmp rfl .nil)) (fun w' hw' => ?_)
    refine ⟨?_, hw'.bel.below⟩
    refine retBB_eq ?_ hn.symm
    unfold upB; rw [hn]; rfl
  · try replace hc1 := of_decide_eq_false hc1
    have hy : voyOk room bs v = true := by simpa using hc1
    refine Run.skip ?_
    refine Run.seq ?_
    refine Run.seq ?_
    refine Run.quiet (by intro h; cases h) ?_
    refine QOps.st rfl rfl (Yv.assign rfl).yl ?_
    refine QOps.nil ?_
    refine Run.block ?_
    refine Run.loop (S := Nat) (fun s => match s with | i => 1 ≤ i ∧ (i ≤ rs1.length ∨ i = 1) ∧ ∀ j, j + 1 < i → goodP (rs1.map InR.l) j = true) (fun s => match s with | i => [(8, .slice At1 rs1.length ct1), (10, .int .i64 (i : Int))]) (fun s => match s with | i => (.row At1 ct1 85 1 rs1.length (rs1.flatMap InR.enc) :: (([] : List (InR Int)) ++ rs1).map (InR.row 3 1 intC))) (fun s => match s with | i => rs1.length + 1 - i) 1 ?_ (SubE.cons rfl (SubE.cons rfl (SubE.nil _))) (List.Sublist.refl _) ?_
    · exact ⟨by omega, by omega, fun j hj => by omega⟩
    · rintro i ⟨hi1, hi2, hig⟩
      show Run _ _ _ _ _ [(8, .slice At1 rs1.length ct1), (10, .int .i64 (i : Int))] (.row At1 ct1 85 1 rs1.length (rs1.flatMap InR.enc) :: (([] : List (InR Int)) ++ rs1).map (InR.row 3 1 intC)) _
      have hrl : rs1.length = (voyL room bs v).length := by rw [← hrs1]; simp
      have hq := rs_two hrs1 voyL_two
      refine Run.seq ?_
      refine Run.seq ?_
      refine Run.quiet (by intro h; cases h) ?_
      refine QOps.st rfl rfl (Yv.move rfl).yl ?_
      refine QOps.st rfl rfl (Yv.move rfl).yl ?_
      refine QOps.st rfl rfl (Yv.lenS el56s rfl).yl ?_
      refine QOps.st rfl rfl (Yv.lss rfl rfl).yl ?_
      refine QOps.nil ?_
      refine Run.cond rfl (fun hc2 => ?_) (fun hc2 => ?_)
      · try replace hc2 := of_decide_eq_true hc2
        have hq1 := hq _ (nthMem (show i - 1 < rs1.length by omega))
        have hq2 := hq _ (nthMem (show i < rs1.length by omega))
        refine Run.skip ?_
        refine Run.seq ?_
        refine Run.block ?_
        refine Run.seq ?_
        refine Run.quiet (fun _ => ⟨by kernel_rfl, by kernel_rfl⟩) ?_
        refine QOps.st rfl rfl (Yv.move rfl).yl ?_
        refine QOps.st rfl rfl (Yv.move rfl).yl ?_
        refine QOps.st rfl rfl (Yv.sub rfl rfl (by omega)).yl ?_
        refine QOps.st rfl rfl (Yv.indexAddr (i - 1) el56 rfl rfl (by omega) (Rd.row (i := 0) rfl) (by omega)).yl ?_
        refine QOps.st rfl rfl (Yv.loadE (k := (i - 1)) lay85 rfl InR.len (Rd.row (i := 0) rfl) (by first | omega | (simp; omega)) rfl).yl ?_
        refine QOps.st rfl rfl (Yv.indexAddr 1 el85 rfl rfl rfl (Rd.innerOf (H1 := [_]) (rs := rs1) (k := (i - 1)) (by omega) (fun x hx => by simp [hx])) (by omega)).yl ?_
        refine QOps.st rfl rfl (Yv.loadE lay3 rfl intC_len (Rd.innerOf (H1 := [_]) (rs := rs1) (k := (i - 1)) (by omega) (fun x hx => by simp [hx])) (by first | omega | (simp; omega)) rfl).yl ?_
        refine QOps.st rfl rfl (Yv.move rfl).yl ?_
        refine QOps.st rfl rfl (Yv.move rfl).yl ?_
        refine QOps.st rfl rfl (Yv.indexAddr i el56 rfl rfl rfl (Rd.row (i := 0) rfl) (by omega)).yl ?_
        refine QOps.st rfl rfl (Yv.loadE (k := i) lay85 rfl InR.len (Rd.row (i := 0) rfl) (by first | omega | (simp; omega)) rfl).yl ?_
        refine QOps.st rfl rfl (Yv.indexAddr 1 el85 rfl rfl rfl (Rd.innerOf (H1 := [_]) (rs := rs1) (k := i) (by omega) (fun x hx => by simp [hx])) (by omega)).yl ?_
        refine QOps.st rfl rfl (Yv.loadE lay3 rfl intC_len (Rd.innerOf (H1 := [_]) (rs := rs1) (k := i) (by omega) (fun x hx => by simp [hx])) (by first | omega | (simp; omega)) rfl).yl ?_
        refine QOps.st rfl rfl (Yv.eqI rfl rfl).yl ?_
        refine QOps.st rfl rfl (Yv.move rfl).yl ?_
        refine' QOps.or [_, _, _, _, _, _, _, _, _, _, _, _, _, _] _ (.tmp 54) rfl rfl rfl rfl rfl rfl (fun hg1 => ?_) ?_
        rotate_left
        · try replace hg1 := of_decide_eq_false hg1
          refine QOps.st rfl rfl (Yv.move rfl).yl ?_
          refine QOps.st rfl rfl (Yv.move rfl).yl ?_
          refine QOps.st rfl rfl (Yv.sub rfl rfl (by omega)).yl ?_
          refine QOps.st rfl rfl (Yv.indexAddr (i - 1) el56 rfl rfl (by omega) (Rd.row (i := 0) rfl) (by omega)).yl ?_
          refine QOps.st rfl rfl (Yv.loadE (k := (i - 1)) lay85 rfl InR.len (Rd.row (i := 0) rfl) (by first | omega | (simp; omega)) rfl).yl ?_
          refine QOps.st rfl rfl (Yv.indexAddr 0 el85 rfl rfl rfl (Rd.innerOf (H1 := [_]) (rs := rs1) (k := (i - 1)) (by omega) (fun x hx => by simp [hx])) (by omega)).yl ?_
          refine QOps.st rfl rfl (Yv.loadE lay3 rfl intC_len (Rd.innerOf (H1 := [_]) (rs := rs1) (k := (i - 1)) (by omega) (fun x hx => by simp [hx])) (by first | omega | (simp; omega)) rfl).yl ?_
          refine QOps.st rfl rfl (Yv.move rfl).yl ?_
          refine QOps.st rfl rfl (Yv.move rfl).yl ?_
          refine QOps.st rfl rfl (Yv.indexAddr i el56 rfl rfl rfl (Rd.row (i := 0) rfl) (by omega)).yl ?_
          refine QOps.st rfl rfl (Yv.loadE (k := i) lay85 rfl InR.len (Rd.row (i := 0) rfl) (by first | omega | (simp; omega)) rfl).yl ?_
          refine QOps.st rfl rfl (Yv.indexAddr 0 el85 rfl rfl rfl (Rd.innerOf (H1 := [_]) (rs := rs1) (k := i) (by omega) (fun x hx => by simp [hx])) (by omega)).yl ?_
          refine QOps.st rfl rfl (Yv.loadE lay3 rfl intC_len (Rd.innerOf (H1 := [_]) (rs := rs1) (k := i) (by omega) (fun x hx => by simp [hx])) (by first | omega | (simp; omega)) rfl).yl ?_
          refine QOps.st rfl rfl (Yv.gtr rfl rfl).yl ?_
          exact QOps.nil rfl
        refine QOps.nil ?_
        refine Run.cond rfl (fun hc3 => ?_) (fun hc3 => ?_)
        · try replace hc3 := of_decide_eq_true hc3
          have hgp : goodP (rs1.map InR.l) (i - 1) = false := by
                rw [goodP_rs (by omega) (by omega)]
                have h9 := up_rs hrs1 hy (i := i) (by omega) (by omega)
                rw [Bool.and_eq_false_iff, decide_eq_false_iff_not, decide_eq_false_iff_not]
                rw [Bool.or_eq_true, decide_eq_true_eq, decide_eq_true_eq] at hc3
                omega
          have hz := up_no hrs1 (by omega) (by omega) hgp
          refine Run.seq ?_
          refine Run.quiet (by intro h; cases h) ?_
          refine QOps.st rfl rfl (Yv.assign rfl).yl ?_
          refine QOps.st rfl rfl (Yv.assign rfl).yl ?_
          refine QOps.nil ?_
          refine Run.ret ?_
          refine retQ.of (.inr rfl) rfl (.tmp rfl (.tmp rfl .nil)) (fun w' hw' => ?_)
          refine ⟨?_, hw'.bel.below⟩
          refine retBB_eq hz.symm hy.symm
        · try replace hc3 := of_decide_eq_false hc3
          have hgp : goodP (rs1.map InR.l) (i - 1) = true := by
                rw [goodP_rs (by omega) (by omega)]
                have h9 := up_rs hrs1 hy (i := i) (by omega) (by omega)
                rw [Bool.and_eq_true, decide_eq_true_eq, decide_eq_true_eq]
                rw [Bool.or_eq_false_iff, decide_eq_false_iff_not, decide_eq_false_iff_not] at hc3
                omega
          refine Run.skip ?_
          refine Run.quiet (by intro h; cases h) ?_
          refine QOps.st rfl rfl (Yv.move rfl).yl ?_
          refine QOps.st rfl rfl (Yv.succN rfl rfl (by omega)).yl ?_
          refine QOps.st rfl rfl (Yv.assign rfl).yl ?_
          refine QOps.nil ?_
          refine ⟨i + 1, ?_, ?_, (SubE.cons rfl (SubE.cons rfl (SubE.nil _))), (List.Sublist.refl _)⟩
          · exact ⟨by omega, by omega, fun j hj => (Nat.lt_or_ge (j + 1) i).elim (fun h => hig j h) (fun h => (show i - 1 = j by omega) ▸ hgp)⟩
          · first | omega | (dsimp only; omega)
      · try replace hc2 := of_decide_eq_false hc2
        refine Run.exit ?_
        refine Run.seq ?_
        refine Run.quiet (by intro h; cases h) ?_
        refine QOps.st rfl rfl (Yv.assign rfl).yl ?_
        refine QOps.st rfl rfl (Yv.assign rfl).yl ?_
        refine QOps.nil ?_
        refine Run.ret ?_
        refine retQ.of (.inr rfl) rfl (.tmp rfl (.tmp rfl .nil)) (fun w' hw' => ?_)
        refine ⟨?_, hw'.bel.below⟩
        refine retBB_eq (up_yes hrs1 hy (fun j hj => hig j (by omega))).symm hy.symm

theorem sIsUpward_spec {w : World} {A : Option Addr} {c : Nat} {room v : Int} {bs : List Booking} (hs : Sl w 4 A bs.length c (bs.flatMap Booking.enc)) (hl10 : bs.length ≤ 1048576) :
    Calls Try.prog 39 #[.int .i64 room, .slice A bs.length c, .int .i64 v] w (RetB w (.tuple #[.bool (upB room bs v), .bool (voyOk room bs v)])) := by
  have hmx := Sl.lenle hs
  have hvl := voyL_len (room := room) (bs := bs) (v := v)
  refine calls_of_run (vs := [_, _, _]) (L := [(0, _), (1, _), (2, _)]) (n := 58) (F := []) (H := []) Try.func39 rfl rfl rfl rfl (HOk.start _) ?_
  refine Run.seq ?_
  refine Run.quiet (by intro h; cases h) ?_
  refine QOps.st rfl rfl (Yv.assign rfl).yl ?_
  refine QOps.st rfl rfl (Yv.assign rfl).yl ?_
  refine QOps.nil ?_
  refine Run.seq ?_
  refine Run.seq ?_
  refine Run.quiet (by intro h; cases h) ?_
  refine QOps.st rfl rfl (Yv.move rfl).yl ?_
  refine QOps.st rfl rfl (Yv.move rfl).yl ?_
  refine QOps.st rfl rfl (Yl.call callable50 (.cons rfl (.cons rfl (.nil))) (fun w' hw' => l18Good_spec ((Rd.arg hs) w' hw'))) ?_
  refine QOps.st rfl rfl (Yv.not rfl).yl ?_
  refine QOps.st rfl rfl (Yv.move rfl).yl ?_
  refine' QOps.or [_, _, _] _ (.tmp 17) rfl rfl rfl rfl rfl rfl (fun hg1 => ?_) ?_
  rotate_left
  · try replace hg1 := of_decide_eq_false hg1
    refine QOps.st rfl rfl (Yv.move rfl).yl ?_
    refine QOps.st rfl rfl (Yl.call callable66 (.cons rfl (.cons rfl (.cons rfl (.nil)))) (fun w' hw' => l1In_spec)) ?_
    refine QOps.st rfl rfl (Yv.not rfl).yl ?_
    exact QOps.nil rfl
  refine QOps.nil ?_
  refine Run.cond rfl (fun hc1 => ?_) (fun hc1 => ?_)
  · try replace hc1 := of_decide_eq_true hc1
    have hn : voyOk room bs v = false := by unfold voyOk; revert hc1; cases areBookings room bs <;> cases inB v 1 99 <;> simp
    refine Run.seq ?_
    refine Run.quiet (by intro h; cases h) ?_
    refine QOps.st rfl rfl (Yv.assign rfl).yl ?_
    refine QOps.st rfl rfl (Yv.assign rfl).yl ?_
    refine QOps.nil ?_
    refine Run.ret ?_
    refine retQ.of (.inr rfl) rfl (.tmp rfl (.tmp rfl .nil)) (fun w' hw' => ?_)
    refine ⟨?_, hw'.bel.below⟩
    refine retBB_eq ?_ hn.symm
    unfold upB; rw [hn]; rfl
  · try replace hc1 := of_decide_eq_false hc1
    have hy : voyOk room bs v = true := by unfold voyOk; revert hc1; cases areBookings room bs <;> cases inB v 1 99 <;> simp
    refine Run.skip ?_
    refine Run.seq ?_
    refine Run.ops ?_
    refine SOps.st rfl rfl (Yv.move rfl).yl ?_
    refine SOps.st rfl rfl (Yv.move rfl).yl ?_
    refine SOps.one rfl (One.callTabT (H1 := []) (rs0 := ([] : List (InR Int))) rfl callable73 (.cons rfl (.cons rfl (.nil))) (fun w' hw' => l18Slots_spec ((Rd.arg hs) w' hw') (by omega)) ?_)
    rintro At1 ct1 rs1 hrs1
    refine SOps.st rfl rfl (Yv.assign rfl).yl ?_
    refine SOps.nil ?_
    have hvs : voyL room bs v = voyS bs v bs.length := by unfold voyL; rw [if_pos hy]
    rw [← hvs] at hrs1
    refine Run.seq ?_
    refine Run.seq ?_
    refine Run.quiet (by intro h; cases h) ?_
    refine QOps.st rfl rfl (Yv.assign rfl).yl ?_
    refine QOps.nil ?_
    refine Run.block ?_
    refine Run.loop (S := Nat) (fun s => match s with | i => 1 ≤ i ∧ (i ≤ rs1.length ∨ i = 1) ∧ ∀ j, j + 1 < i → goodP (rs1.map InR.l) j = true) (fun s => match s with | i => [(8, .slice At1 rs1.length ct1), (9, .int .i64 (i : Int))]) (fun s => match s with | i => (.row At1 ct1 85 1 rs1.length (rs1.flatMap InR.enc) :: (([] : List (InR Int)) ++ rs1).map (InR.row 3 1 intC))) (fun s => match s with | i => rs1.length + 1 - i) 1 ?_ (SubE.cons rfl (SubE.cons rfl (SubE.nil _))) (List.Sublist.refl _) ?_
    · exact ⟨by omega, by omega, fun j hj => by omega⟩
    · rintro i ⟨hi1, hi2, hig⟩
      show Run _ _ _ _ _ [(8, .slice At1 rs1.length ct1), (9, .int .i64 (i : Int))] (.row At1 ct1 85 1 rs1.length (rs1.flatMap InR.enc) :: (([] : List (InR Int)) ++ rs1).map (InR.row 3 1 intC)) _
      have hrl : rs1.length = (voyL room bs v).length := by rw [← hrs1]; simp
      have hq := rs_two hrs1 voyL_two
      refine Run.seq ?_
      refine Run.seq ?_
      refine Run.quiet (by intro h; cases h) ?_
      refine QOps.st rfl rfl (Yv.move rfl).yl ?_
      refine QOps.st rfl rfl (Yv.move rfl).yl ?_
      refine QOps.st rfl rfl (Yv.lenS el56s rfl).yl ?_
      refine QOps.st rfl rfl (Yv.lss rfl rfl).yl ?_
      refine QOps.nil ?_
      refine Run.cond rfl (fun hc2 => ?_) (fun hc2 => ?_)
      · try replace hc2 := of_decide_eq_true hc2
        have hq1 := hq _ (nthMem (show i - 1 < rs1.length by omega))
        have hq2 := hq _ (nthMem (show i < rs1.length by omega))
        refine Run.skip ?_
        refine Run.seq ?_
        refine Run.block ?_
        refine Run.seq ?_
        refine Run.quiet (fun _ => ⟨by kernel_rfl, by kernel_rfl⟩) ?_
        refine QOps.st rfl rfl (Yv.move rfl).yl ?_
        refine QOps.st rfl rfl (Yv.move rfl).yl ?_
        refine QOps.st rfl rfl (Yv.sub rfl rfl (by omega)).yl ?_
        refine QOps.st rfl rfl (Yv.indexAddr (i - 1) el56 rfl rfl (by omega) (Rd.row (i := 0) rfl) (by omega)).yl ?_
        refine QOps.st rfl rfl (Yv.loadE (k := (i - 1)) lay85 rfl InR.len (Rd.row (i := 0) rfl) (by first | omega | (simp; omega)) rfl).yl ?_
        refine QOps.st rfl rfl (Yv.indexAddr 0 el85 rfl rfl rfl (Rd.innerOf (H1 := [_]) (rs := rs1) (k := (i - 1)) (by omega) (fun x hx => by simp [hx])) (by omega)).yl ?_
        refine QOps.st rfl rfl (Yv.loadE lay3 rfl intC_len (Rd.innerOf (H1 := [_]) (rs := rs1) (k := (i - 1)) (by omega) (fun x hx => by simp [hx])) (by first | omega | (simp; omega)) rfl).yl ?_
        refine QOps.st rfl rfl (Yv.move rfl).yl ?_
        refine QOps.st rfl rfl (Yv.move rfl).yl ?_
        refine QOps.st rfl rfl (Yv.indexAddr i el56 rfl rfl rfl (Rd.row (i := 0) rfl) (by omega)).yl ?_
        refine QOps.st rfl rfl (Yv.loadE (k := i) lay85 rfl InR.len (Rd.row (i := 0) rfl) (by first | omega | (simp; omega)) rfl).yl ?_
        refine QOps.st rfl rfl (Yv.indexAddr 0 el85 rfl rfl rfl (Rd.innerOf (H1 := [_]) (rs := rs1) (k := i) (by omega) (fun x hx => by simp [hx])) (by omega)).yl ?_
        refine QOps.st rfl rfl (Yv.loadE lay3 rfl intC_len (Rd.innerOf (H1 := [_]) (rs := rs1) (k := i) (by omega) (fun x hx => by simp [hx])) (by first | omega | (simp; omega)) rfl).yl ?_
        refine QOps.st rfl rfl (Yv.geq rfl rfl).yl ?_
        refine QOps.st rfl rfl (Yv.move rfl).yl ?_
        refine' QOps.or [_, _, _, _, _, _, _, _, _, _, _, _, _, _] _ (.tmp 56) rfl rfl rfl rfl rfl rfl (fun hg2 => ?_) ?_
        rotate_left
        · try replace hg2 := of_decide_eq_false hg2
          refine QOps.st rfl rfl (Yv.move rfl).yl ?_
          refine QOps.st rfl rfl (Yv.move rfl).yl ?_
          refine QOps.st rfl rfl (Yv.sub rfl rfl (by omega)).yl ?_
          refine QOps.st rfl rfl (Yv.indexAddr (i - 1) el56 rfl rfl (by omega) (Rd.row (i := 0) rfl) (by omega)).yl ?_
          refine QOps.st rfl rfl (Yv.loadE (k := (i - 1)) lay85 rfl InR.len (Rd.row (i := 0) rfl) (by first | omega | (simp; omega)) rfl).yl ?_
          refine QOps.st rfl rfl (Yv.indexAddr 1 el85 rfl rfl rfl (Rd.innerOf (H1 := [_]) (rs := rs1) (k := (i - 1)) (by omega) (fun x hx => by simp [hx])) (by omega)).yl ?_
          refine QOps.st rfl rfl (Yv.loadE lay3 rfl intC_len (Rd.innerOf (H1 := [_]) (rs := rs1) (k := (i - 1)) (by omega) (fun x hx => by simp [hx])) (by first | omega | (simp; omega)) rfl).yl ?_
          refine QOps.st rfl rfl (Yv.move rfl).yl ?_
          refine QOps.st rfl rfl (Yv.move rfl).yl ?_
          refine QOps.st rfl rfl (Yv.indexAddr i el56 rfl rfl rfl (Rd.row (i := 0) rfl) (by omega)).yl ?_
          refine QOps.st rfl rfl (Yv.loadE (k := i) lay85 rfl InR.len (Rd.row (i := 0) rfl) (by first | omega | (simp; omega)) rfl).yl ?_
          refine QOps.st rfl rfl (Yv.indexAddr 1 el85 rfl rfl rfl (Rd.innerOf (H1 := [_]) (rs := rs1) (k := i) (by omega) (fun x hx => by simp [hx])) (by omega)).yl ?_
          refine QOps.st rfl rfl (Yv.loadE lay3 rfl intC_len (Rd.innerOf (H1 := [_]) (rs := rs1) (k := i) (by omega) (fun x hx => by simp [hx])) (by first | omega | (simp; omega)) rfl).yl ?_
          refine QOps.st rfl rfl (Yv.geq rfl rfl).yl ?_
          exact QOps.nil rfl
        refine QOps.nil ?_
        refine Run.cond rfl (fun hc3 => ?_) (fun hc3 => ?_)
        · try replace hc3 := of_decide_eq_true hc3
          have hgp : goodP (rs1.map InR.l) (i - 1) = false := by
                rw [goodP_rs (by omega) (by omega)]
                have h9 := up_rs hrs1 hy (i := i) (by omega) (by omega)
                rw [Bool.and_eq_false_iff, decide_eq_false_iff_not, decide_eq_false_iff_not]
                rw [Bool.or_eq_true, decide_eq_true_eq, decide_eq_true_eq] at hc3
                omega
          have hz := up_no hrs1 (by omega) (by omega) hgp
          refine Run.seq ?_
          refine Run.quiet (by intro h; cases h) ?_
          refine QOps.st rfl rfl (Yv.assign rfl).yl ?_
          refine QOps.st rfl rfl (Yv.assign rfl).yl ?_
          refine QOps.nil ?_
          refine Run.ret ?_
          refine retQ.of (.inr rfl) rfl (.tmp rfl (.tmp rfl .nil)) (fun w' hw' => ?_)
          refine ⟨?_, hw'.bel.below⟩
          refine retBB_eq hz.symm hy.symm
        · try replace hc3 := of_decide_eq_false hc3
          have hgp : goodP (rs1.map InR.l) (i - 1) = true := by
                rw [goodP_rs (by omega) (by omega)]
                have h9 := up_rs hrs1 hy (i := i) (by omega) (by omega)
                rw [Bool.and_eq_true, decide_eq_true_eq, decide_eq_true_eq]
                rw [Bool.or_eq_false_iff, decide_eq_false_iff_not, decide_eq_false_iff_not] at hc3
                omega
          refine Run.skip ?_
          refine Run.quiet (by intro h; cases h) ?_
          refine QOps.st rfl rfl (Yv.move rfl).yl ?_
          refine QOps.st rfl rfl (Yv.succN rfl rfl (by omega)).yl ?_
          refine QOps.st rfl rfl (Yv.assign rfl).yl ?_
          refine QOps.nil ?_
          refine ⟨i + 1, ?_, ?_, (SubE.cons rfl (SubE.cons rfl (SubE.nil _))), (List.Sublist.refl _)⟩
          · exact ⟨by omega, by omega, fun j hj => (Nat.lt_or_ge (j + 1) i).elim (fun h => hig j h) (fun h => (show i - 1 = j by omega) ▸ hgp)⟩
          · first | omega | (dsimp only; omega)
      · try replace hc2 := of_decide_eq_false hc2
        refine Run.exit ?_
        refine Run.seq ?_
        refine Run.quiet (by intro h; cases h) ?_
        refine QOps.st rfl rfl (Yv.assign rfl).yl ?_
        refine QOps.st rfl rfl (Yv.assign rfl).yl ?_
        refine QOps.nil ?_
        refine Run.ret ?_
        refine retQ.of (.inr rfl) rfl (.tmp rfl (.tmp rfl .nil)) (fun w' hw' => ?_)
        refine ⟨?_, hw'.bel.below⟩
        refine retBB_eq (up_yes hrs1 hy (fun j hj => hig j (by omega))).symm hy.symm

theorem FnExactIsUpward_spec {w : World} {A : Option Addr} {c : Nat} {room v : Int} {bs : List Booking} (hs : Sl w 4 A bs.length c (bs.flatMap Booking.enc)) (hb : 32 * bs.length ≤ 281474976710656) :
    Calls Try.prog 11 #[.int .i64 room, .slice A bs.length c, .int .i64 v] w (RetB w (.bool true)) := by
  refine calls_of_run (vs := [_, _, _]) (L := [(0, _), (1, _), (2, _)]) (n := 48) (F := []) (H := []) Try.func11 rfl rfl rfl rfl (HOk.start _) ?_
  refine Run.seq ?_
  refine Run.quiet (by intro h; cases h) ?_
  refine QOps.st rfl rfl (Yv.assign rfl).yl ?_
  refine QOps.nil ?_
  refine Run.seq ?_
  refine Run.quiet (by intro h; cases h) ?_
  refine QOps.st rfl rfl (Yv.assign rfl).yl ?_
  refine QOps.nil ?_
  refine Run.seq ?_
  refine Run.quiet (by intro h; cases h) ?_
  refine QOps.st rfl rfl (Yv.move rfl).yl ?_
  refine QOps.st rfl rfl (Yv.move rfl).yl ?_
  refine QOps.st rfl rfl (Yl.call callable14 (.cons rfl (.cons rfl (.nil))) (fun w' hw' => szBookingS_spec (by omega) (by omega) (by omega))) ?_
  refine QOps.st rfl rfl (Yv.assign rfl).yl ?_
  refine QOps.nil ?_
  refine Run.seq ?_
  refine Run.seq ?_
  refine Run.quiet (by intro h; cases h) ?_
  refine QOps.st rfl rfl (Yv.move rfl).yl ?_
  refine QOps.st rfl rfl (Yv.lss rfl rfl).yl ?_
  refine QOps.nil ?_
  refine Run.cond rfl (fun hc1 => ?_) (fun hc1 => ?_)
  · try replace hc1 := of_decide_eq_true hc1
    refine Run.seq ?_
    refine Run.quiet (by intro h; cases h) ?_
    refine QOps.st rfl rfl (Yv.assign rfl).yl ?_
    refine QOps.nil ?_
    refine Run.ret ?_
    refine retQ.of (.inr rfl) rfl (.tmp rfl .nil) (fun w' hw' => ?_)
    refine ⟨?_, hw'.bel.below⟩
    exact rfl
  · try replace hc1 := of_decide_eq_false hc1
    have hn1 : bs.length ≤ 1048576 := by split at hc1 <;> omega
    refine Run.skip ?_
    refine Run.seq ?_
    refine Run.ops ?_
    refine SOps.st rfl rfl (Yv.move rfl).yl ?_
    refine SOps.st rfl rfl (Yv.move rfl).yl ?_
    refine SOps.one rfl (One.callRow rfl callable16 (.cons rfl (.nil)) (fun w' hw' => toBookingS_spec ((Rd.arg hs) w' hw') (by omega)) (fun A1 c1 => ?_))
    refine SOps.st rfl rfl (Yv.move rfl).yl ?_
    refine SOps.st rfl rfl (Yl.call callable39 (.cons rfl (.cons rfl (.cons rfl (.nil)))) (fun w' hw' => sIsUpward_spec ((Rd.row (i := 0) rfl) w' hw') (by omega))) ?_
    refine SOps.st rfl rfl (Yv.move rfl).yl ?_
    refine SOps.st rfl rfl (Yv.extract rfl rfl).yl ?_
    refine SOps.st rfl rfl (Yv.extract rfl rfl).yl ?_
    refine SOps.st rfl rfl (Yv.assign rfl).yl ?_
    refine SOps.st rfl rfl (Yv.assign rfl).yl ?_
    refine SOps.nil ?_
    refine Run.seq ?_
    refine Run.ops ?_
    refine SOps.st rfl rfl (Yv.move rfl).yl ?_
    refine SOps.one rfl (One.callRow rfl callable16 (.cons rfl (.nil)) (fun w' hw' => toBookingS_spec ((Rd.arg hs) w' hw') (by omega)) (fun A2 c2 => ?_))
    refine SOps.st rfl rfl (Yv.assign rfl).yl ?_
    refine SOps.nil ?_
    refine Run.seq ?_
    refine Run.quiet (by intro h; cases h) ?_
    refine QOps.st rfl rfl (Yv.move rfl).yl ?_
    refine QOps.st rfl rfl (Yv.move rfl).yl ?_
    refine QOps.st rfl rfl (Yv.move rfl).yl ?_
    refine QOps.st rfl rfl (Yl.call callable40 (.cons rfl (.cons rfl (.cons rfl (.nil)))) (fun w' hw' => IsUpward_spec ((Rd.row (i := 0) rfl) w' hw') (by omega))) ?_
    refine QOps.st rfl rfl (Yv.move rfl).yl ?_
    refine QOps.st rfl rfl (Yv.extract rfl rfl).yl ?_
    refine QOps.st rfl rfl (Yv.extract rfl rfl).yl ?_
    refine QOps.st rfl rfl (Yv.assign rfl).yl ?_
    refine QOps.st rfl rfl (Yv.assign rfl).yl ?_
    refine QOps.nil ?_
    refine Run.seq ?_
    refine Run.seq ?_
    refine Run.quiet (by intro h; cases h) ?_
    refine QOps.st rfl rfl (Yv.move rfl).yl ?_
    refine QOps.st rfl rfl (Yv.move rfl).yl ?_
    refine QOps.st rfl rfl (Yv.neB bool4 rfl rfl).yl ?_
    refine QOps.st rfl rfl (Yv.move rfl).yl ?_
    refine' QOps.or [_, _, _] _ (.tmp 41) rfl rfl rfl rfl rfl rfl (fun hg1 => ?_) ?_
    rotate_left
    · try replace hg1 := of_decide_eq_false hg1
      refine QOps.st rfl rfl (Yv.move rfl).yl ?_
      refine QOps.st rfl rfl (Yv.move rfl).yl ?_
      refine QOps.st rfl rfl (Yv.neB bool4 rfl rfl).yl ?_
      exact QOps.nil rfl
    refine QOps.nil ?_
    refine Run.cond rfl (fun hc2 => ?_) (fun hc2 => ?_)
    · exfalso
      simp at hc2
    · try replace hc2 := of_decide_eq_false hc2
      refine Run.skip ?_
      refine Run.seq ?_
      refine Run.seq ?_
      refine Run.ops ?_
      refine SOps.st rfl rfl (Yv.move rfl).yl ?_
      refine SOps.st rfl rfl (Yv.move rfl).yl ?_
      refine SOps.one rfl (One.callRow rfl callable16 (.cons rfl (.nil)) (fun w' hw' => toBookingS_spec ((Rd.arg hs) w' hw') (by omega)) (fun A3 c3 => ?_))
      refine SOps.st rfl rfl (Yl.call callable18 (.cons rfl (.cons rfl (.nil))) (fun w' hw' => eqBookingS_spec ((Rd.row (i := 1) rfl) w' hw') ((Rd.row (i := 0) rfl) w' hw'))) ?_
      refine SOps.st rfl rfl (Yv.not rfl).yl ?_
      refine SOps.nil ?_
      refine Run.cond rfl (fun hc3 => ?_) (fun hc3 => ?_)
      · exfalso
        simp at hc3
      · try replace hc3 := of_decide_eq_false hc3
        refine Run.skip ?_
        refine Run.seq ?_
        refine Run.quiet (by intro h; cases h) ?_
        refine QOps.st rfl rfl (Yv.assign rfl).yl ?_
        refine QOps.nil ?_
        refine Run.ret ?_
        refine retQ.of (.inr rfl) rfl (.tmp rfl .nil) (fun w' hw' => ?_)
        refine ⟨?_, hw'.bel.below⟩
        exact rfl
theorem FnExactVoyageSlots_spec {w : World} {A : Option Addr} {c : Nat} {room v : Int} {bs : List Booking} (hs : Sl w 4 A bs.length c (bs.flatMap Booking.enc)) (hb : 32 * bs.length ≤ 281474976710656) :
    Calls Try.prog 12 #[.int .i64 room, .slice A bs.length c, .int .i64 v] w (RetB w (.bool true)) := by
  have hvl := voyL_ten (room := room) (bs := bs) (v := v)
  refine calls_of_run (vs := [_, _, _]) (L := [(0, _), (1, _), (2, _)]) (n := 106) (F := []) (H := []) Try.func12 rfl rfl rfl rfl (HOk.start _) ?_
  refine Run.seq ?_
  refine Run.quiet (by intro h; cases h) ?_
  refine QOps.st rfl rfl (Yv.assign rfl).yl ?_
  refine QOps.nil ?_
  refine Run.seq ?_
  refine Run.quiet (by intro h; cases h) ?_
  refine QOps.st rfl rfl (Yv.assign rfl).yl ?_
  refine QOps.nil ?_
  refine Run.seq ?_
  refine Run.quiet (by intro h; cases h) ?_
  refine QOps.st rfl rfl (Yv.move rfl).yl ?_
  refine QOps.st rfl rfl (Yv.move rfl).yl ?_
  refine QOps.st rfl rfl (Yl.call callable14 (.cons rfl (.cons rfl (.nil))) (fun w' hw' => szBookingS_spec (by omega) (by omega) (by omega))) ?_
  refine QOps.st rfl rfl (Yv.assign rfl).yl ?_
  refine QOps.nil ?_
  refine Run.seq ?_
  refine Run.seq ?_
  refine Run.quiet (by intro h; cases h) ?_
  refine QOps.st rfl rfl (Yv.move rfl).yl ?_
  refine QOps.st rfl rfl (Yv.lss rfl rfl).yl ?_
  refine QOps.nil ?_
  refine Run.cond rfl (fun hc1 => ?_) (fun hc1 => ?_)
  · try replace hc1 := of_decide_eq_true hc1
    refine Run.seq ?_
    refine Run.quiet (by intro h; cases h) ?_
    refine QOps.st rfl rfl (Yv.assign rfl).yl ?_
    refine QOps.nil ?_
    refine Run.ret ?_
    refine retQ.of (.inr rfl) rfl (.tmp rfl .nil) (fun w' hw' => ?_)
    refine ⟨?_, hw'.bel.below⟩
    exact rfl
  · try replace hc1 := of_decide_eq_false hc1
    have hn1 : bs.length ≤ 1048576 := by split at hc1 <;> omega
    refine Run.skip ?_
    refine Run.seq ?_
    refine Run.ops ?_
    refine SOps.st rfl rfl (Yv.move rfl).yl ?_
    refine SOps.st rfl rfl (Yv.move rfl).yl ?_
    refine SOps.one rfl (One.callRow rfl callable16 (.cons rfl (.nil)) (fun w' hw' => toBookingS_spec ((Rd.arg hs) w' hw') (by omega)) (fun A1 c1 => ?_))
    refine SOps.st rfl rfl (Yv.move rfl).yl ?_
    refine SOps.one rfl (One.callTabT (H1 := [_]) (rs0 := ([] : List (InR Int))) rfl callable41 (.cons rfl (.cons rfl (.cons rfl (.nil)))) (fun w' hw' => sVoyageSlots_spec ((Rd.row (i := 0) rfl) w' hw') (by omega)) ?_)
    rintro At1 ct1 rs1 hrs1
    have hrl1 : rs1.length = (voyL room bs v).length := by rw [← hrs1]; simp
    have htot1 := tot_two (rs_two hrs1 voyL_two) (Nat.le_refl rs1.length)
    refine SOps.st rfl rfl (Yv.move rfl).yl ?_
    refine SOps.st rfl rfl (Yv.extract rfl rfl).yl ?_
    refine SOps.st rfl rfl (Yv.extract rfl rfl).yl ?_
    refine SOps.st rfl rfl (Yv.assign rfl).yl ?_
    refine SOps.st rfl rfl (Yv.assign rfl).yl ?_
    refine SOps.nil ?_
    refine Run.seq ?_
    refine Run.ops ?_
    refine SOps.st rfl rfl (Yv.move rfl).yl ?_
    refine SOps.one rfl (One.callRow rfl callable16 (.cons rfl (.nil)) (fun w' hw' => toBookingS_spec ((Rd.arg hs) w' hw') (by omega)) (fun A2 c2 => ?_))
    refine SOps.st rfl rfl (Yv.assign rfl).yl ?_
    refine SOps.nil ?_
    refine Run.seq ?_
    refine Run.ops ?_
    refine SOps.st rfl rfl (Yv.move rfl).yl ?_
    refine SOps.st rfl rfl (Yv.move rfl).yl ?_
    refine SOps.st rfl rfl (Yv.move rfl).yl ?_
    refine SOps.one rfl (One.callTabT (H1 := [_, _, _]) (rs0 := (([] : List (InR Int)) ++ rs1)) rfl callable42 (.cons rfl (.cons rfl (.cons rfl (.nil)))) (fun w' hw' => VoyageSlots_spec ((Rd.row (i := 0) rfl) w' hw')) ?_)
    rintro At2 ct2 rs2 hrs2
    have hrl2 : rs2.length = (voyL room bs v).length := by rw [← hrs2]; simp
    have htot2 := tot_two (rs_two hrs2 voyL_two) (Nat.le_refl rs2.length)
    refine SOps.st rfl rfl (Yv.move rfl).yl ?_
    refine SOps.st rfl rfl (Yv.extract rfl rfl).yl ?_
    refine SOps.st rfl rfl (Yv.extract rfl rfl).yl ?_
    refine SOps.st rfl rfl (Yv.assign rfl).yl ?_
    refine SOps.st rfl rfl (Yv.assign rfl).yl ?_
    refine SOps.nil ?_
    refine Run.seq ?_
    refine Run.seq ?_
    refine Run.quiet (by intro h; cases h) ?_
    refine QOps.st rfl rfl (Yv.move rfl).yl ?_
    refine QOps.st rfl rfl (Yv.move rfl).yl ?_
    refine QOps.st rfl rfl (Yl.call callable43 (.cons rfl (.cons rfl (.nil))) (fun w' hw' => eqIntSS_spec ((Rd.row (i := 0) rfl) w' hw') ((Rd.row (i := 2) rfl) w' hw') (rdin_tail (H1 := [_, _, _, _]) hw' (fun x hx => by simp [hx])) (rdin_tail (H1 := [_, _, _, _]) hw' (fun x hx => by simp [hx])) (by rw [hrs2, hrs1]))) ?_
    refine QOps.st rfl rfl (Yv.not rfl).yl ?_
    refine QOps.st rfl rfl (Yv.move rfl).yl ?_
    refine' QOps.or [_, _, _] _ (.tmp 47) rfl rfl rfl rfl rfl rfl (fun hg1 => ?_) ?_
    rotate_left
    · try replace hg1 := of_decide_eq_false hg1
      refine QOps.st rfl rfl (Yv.move rfl).yl ?_
      refine QOps.st rfl rfl (Yv.move rfl).yl ?_
      refine QOps.st rfl rfl (Yv.neB bool4 rfl rfl).yl ?_
      exact QOps.nil rfl
    refine QOps.nil ?_
    refine Run.cond rfl (fun hc2 => ?_) (fun hc2 => ?_)
    · exfalso
      first | (simp at hc2; done) | (simp at hc2; omega) | omega
    · try replace hc2 := of_decide_eq_false hc2
      refine Run.skip ?_
      refine Run.seq ?_
      refine Run.seq ?_
      refine Run.ops ?_
      refine SOps.st rfl rfl (Yv.move rfl).yl ?_
      refine SOps.st rfl rfl (Yv.move rfl).yl ?_
      refine SOps.one rfl (One.callRow rfl callable16 (.cons rfl (.nil)) (fun w' hw' => toBookingS_spec ((Rd.arg hs) w' hw') (by omega)) (fun A3 c3 => ?_))
      refine SOps.st rfl rfl (Yl.call callable18 (.cons rfl (.cons rfl (.nil))) (fun w' hw' => eqBookingS_spec ((Rd.row (i := 2) rfl) w' hw') ((Rd.row (i := 0) rfl) w' hw'))) ?_
      refine SOps.st rfl rfl (Yv.not rfl).yl ?_
      refine SOps.nil ?_
      refine Run.cond rfl (fun hc3 => ?_) (fun hc3 => ?_)
      · exfalso
        first | (simp at hc3; done) | (simp at hc3; omega) | omega
      · try replace hc3 := of_decide_eq_false hc3
        refine Run.skip ?_
        refine Run.seq ?_
        refine Run.quiet (by intro h; cases h) ?_
        refine QOps.st rfl rfl (Yv.assign rfl).yl ?_
        refine QOps.nil ?_
        refine Run.seq ?_
        refine Run.ops ?_
        refine SOps.st rfl rfl (Yv.move rfl).yl ?_
        refine SOps.st rfl rfl (Yv.move rfl).yl ?_
        refine SOps.one rfl (One.callMut (i := 2) (H' := (_ :: _ :: _ :: _ :: _ :: _)) rfl callable25 (.cons rfl (.cons rfl (.nil))) rfl (fun w' hw' => markBookingS_spec (hw'.ent _ (List.mem_of_getElem? (i := 2) rfl)) (by omega) (by omega) (by omega)) rfl ?_)
        refine SOps.st rfl rfl (Yv.assign rfl).yl ?_
        refine SOps.nil ?_
        refine Run.seq ?_
        refine Run.seq ?_
        refine Run.quiet (by intro h; cases h) ?_
        refine QOps.st rfl rfl (Yv.move rfl).yl ?_
        refine QOps.st rfl rfl (Yv.lss rfl rfl).yl ?_
        refine QOps.st rfl rfl (Yv.move rfl).yl ?_
        refine' QOps.or [_, _, _, _] _ (.tmp 63) rfl rfl rfl rfl rfl rfl (fun hg2 => ?_) ?_
        rotate_left
        · try replace hg2 := of_decide_eq_false hg2
          refine QOps.st rfl rfl (Yv.move rfl).yl ?_
          refine QOps.st rfl rfl (Yv.move rfl).yl ?_
          refine QOps.st rfl rfl (Yl.call callable43 (.cons rfl (.cons rfl (.nil))) (fun w' hw' => eqIntSS_spec ((Rd.row (i := 1) rfl) w' hw') ((Rd.row (i := 3) rfl) w' hw') (rdin_tail (H1 := [_, _, _, _, _]) hw' (fun x hx => by simp [hx])) (rdin_tail (H1 := [_, _, _, _, _]) hw' (fun x hx => by simp [hx])) (by rw [hrs2, hrs1]))) ?_
          refine QOps.st rfl rfl (Yv.not rfl).yl ?_
          exact QOps.nil rfl
        refine QOps.st rfl rfl (Yv.move rfl).yl ?_
        refine' QOps.or [_, _, _] _ (.tmp 68) rfl rfl rfl rfl rfl rfl (fun hg3 => ?_) ?_
        rotate_left
        · try replace hg3 := of_decide_eq_false hg3
          refine QOps.st rfl rfl (Yv.move rfl).yl ?_
          refine QOps.st rfl rfl (Yv.move rfl).yl ?_
          refine QOps.st rfl rfl (Yv.neB bool4 rfl rfl).yl ?_
          exact QOps.nil rfl
        refine QOps.nil ?_
        refine Run.cond rfl (fun hc4 => ?_) (fun hc4 => ?_)
        · exfalso
          first | (simp at hc4; done) | (simp at hc4; omega) | omega
        · try replace hc4 := of_decide_eq_false hc4
          refine Run.skip ?_
          refine Run.seq ?_
          refine Run.quiet (by intro h; cases h) ?_
          refine QOps.st rfl rfl (Yv.assign rfl).yl ?_
          refine QOps.nil ?_
          refine Run.seq ?_
          refine Run.ops ?_
          refine SOps.st rfl rfl (Yv.move rfl).yl ?_
          refine SOps.st rfl rfl (Yv.move rfl).yl ?_
          refine SOps.one rfl (One.callTabMut (H1 := [_, _, _, _, _]) (ra := (([] : List (InR Int)) ++ rs1)) (rs := rs2) (rs' := markTab rs2 1) rfl callable44 (.cons rfl (.cons rfl (.nil))) (fun w' hw' => markIntSS_spec hw'.lendT ((Rd.row (i := 1) rfl) w' hw') (fun hm => HOk.apartT hw' (i := 1) rfl hm) (by omega) (by omega) (by omega)) ?_)
          refine SOps.st rfl rfl (Yv.assign rfl).yl ?_
          refine SOps.nil ?_
          refine Run.seq ?_
          refine Run.quiet (by intro h; cases h) ?_
          refine QOps.st rfl rfl (Yv.assign rfl).yl ?_
          refine QOps.nil ?_
          refine Run.seq ?_
          refine Run.quiet (by intro h; cases h) ?_
          refine QOps.st rfl rfl (Yv.move rfl).yl ?_
          refine QOps.st rfl rfl (Yv.move rfl).yl ?_
          refine QOps.st rfl rfl (Yl.call callable45 (.cons rfl (.cons rfl (.nil))) (fun w' hw' => heldIntSS_spec ((Rd.row (i := 1) rfl) w' hw') (rdin_tail (H1 := [_, _, _, _, _]) hw' (fun x hx => by simp [hx])) (by omega) (by omega) (by omega))) ?_
          refine QOps.st rfl rfl (Yv.assign rfl).yl ?_
          refine QOps.nil ?_
          refine Run.seq ?_
          refine Run.seq ?_
          refine Run.quiet (by intro h; cases h) ?_
          refine QOps.st rfl rfl (Yv.move rfl).yl ?_
          refine QOps.st rfl rfl (Yv.lss rfl rfl).yl ?_
          refine QOps.nil ?_
          refine Run.cond rfl (fun hc5 => ?_) (fun hc5 => ?_)
          · exfalso
            first | (simp at hc5; done) | (simp at hc5; omega) | omega
          · try replace hc5 := of_decide_eq_false hc5
            refine Run.skip ?_
            refine Run.seq ?_
            refine Run.seq ?_
            refine Run.quiet (by intro h; cases h) ?_
            refine QOps.st rfl rfl (Yv.move rfl).yl ?_
            refine QOps.st rfl rfl (Yv.move rfl).yl ?_
            refine QOps.st rfl rfl (Yv.neI rfl rfl).yl ?_
            refine QOps.nil ?_
            refine Run.cond rfl (fun hc6 => ?_) (fun hc6 => ?_)
            · exfalso
              first | (simp at hc6; done) | (simp at hc6; omega) | omega
            · try replace hc6 := of_decide_eq_false hc6
              refine Run.skip ?_
              refine Run.seq ?_
              refine Run.ops ?_
              refine SOps.st rfl rfl (Yv.move rfl).yl ?_
              refine SOps.st rfl rfl (Yv.move rfl).yl ?_
              refine SOps.one rfl (One.callRow rfl callable16 (.cons rfl (.nil)) (fun w' hw' => toBookingS_spec ((Rd.arg hs) w' hw') (by omega)) (fun A4 c4 => ?_))
              refine SOps.st rfl rfl (Yv.move rfl).yl ?_
              refine SOps.one rfl (One.callTabT (H1 := [_, _, _, _, _, _]) (rs0 := ((([] : List (InR Int)) ++ rs1) ++ (markTab rs2 1))) rfl callable42 (.cons rfl (.cons rfl (.cons rfl (.nil)))) (fun w' hw' => VoyageSlots_spec ((Rd.row (i := 0) rfl) w' hw')) ?_)
              rintro At3 ct3 rs3 hrs3
              have hrl3 : rs3.length = (voyL room bs v).length := by rw [← hrs3]; simp
              have htot3 := tot_two (rs_two hrs3 voyL_two) (Nat.le_refl rs3.length)
              refine SOps.st rfl rfl (Yv.move rfl).yl ?_
              refine SOps.st rfl rfl (Yv.extract rfl rfl).yl ?_
              refine SOps.st rfl rfl (Yv.extract rfl rfl).yl ?_
              refine SOps.st rfl rfl (Yv.assign rfl).yl ?_
              refine SOps.st rfl rfl (Yv.assign rfl).yl ?_
              refine SOps.nil ?_
              refine Run.seq ?_
              refine Run.seq ?_
              refine Run.quiet (by intro h; cases h) ?_
              refine QOps.st rfl rfl (Yv.move rfl).yl ?_
              refine QOps.st rfl rfl (Yv.move rfl).yl ?_
              refine QOps.st rfl rfl (Yl.call callable43 (.cons rfl (.cons rfl (.nil))) (fun w' hw' => eqIntSS_spec ((Rd.row (i := 0) rfl) w' hw') ((Rd.row (i := 5) rfl) w' hw') (rdin_tail (H1 := [_, _, _, _, _, _, _]) hw' (fun x hx => by simp [hx])) (rdin_tail (H1 := [_, _, _, _, _, _, _]) hw' (fun x hx => by simp [hx])) (by rw [hrs3, hrs1]))) ?_
              refine QOps.st rfl rfl (Yv.not rfl).yl ?_
              refine QOps.st rfl rfl (Yv.move rfl).yl ?_
              refine' QOps.or [_, _, _] _ (.tmp 96) rfl rfl rfl rfl rfl rfl (fun hg4 => ?_) ?_
              rotate_left
              · try replace hg4 := of_decide_eq_false hg4
                refine QOps.st rfl rfl (Yv.move rfl).yl ?_
                refine QOps.st rfl rfl (Yv.move rfl).yl ?_
                refine QOps.st rfl rfl (Yv.neB bool4 rfl rfl).yl ?_
                exact QOps.nil rfl
              refine QOps.nil ?_
              refine Run.cond rfl (fun hc7 => ?_) (fun hc7 => ?_)
              · exfalso
                first | (simp at hc7; done) | (simp at hc7; omega) | omega
              · try replace hc7 := of_decide_eq_false hc7
                refine Run.skip ?_
                refine Run.seq ?_
                refine Run.quiet (by intro h; cases h) ?_
                refine QOps.st rfl rfl (Yv.assign rfl).yl ?_
                refine QOps.nil ?_
                refine Run.seq ?_
                refine Run.quiet (by intro h; cases h) ?_
                refine QOps.st rfl rfl (Yv.move rfl).yl ?_
                refine QOps.st rfl rfl (Yv.move rfl).yl ?_
                refine QOps.st rfl rfl (Yl.call callable45 (.cons rfl (.cons rfl (.nil))) (fun w' hw' => heldIntSS_spec ((Rd.row (i := 3) rfl) w' hw') (rdin_tail (H1 := [_, _, _, _, _, _, _]) hw' (fun x hx => by simp [hx])) (by omega) (by omega) (by omega))) ?_
                refine QOps.st rfl rfl (Yv.assign rfl).yl ?_
                refine QOps.nil ?_
                refine Run.seq ?_
                refine Run.seq ?_
                refine Run.quiet (by intro h; cases h) ?_
                refine QOps.st rfl rfl (Yv.move rfl).yl ?_
                refine QOps.st rfl rfl (Yv.lss rfl rfl).yl ?_
                refine QOps.nil ?_
                refine Run.cond rfl (fun hc8 => ?_) (fun hc8 => ?_)
                · exfalso
                  first | (simp at hc8; done) | (simp at hc8; omega) | omega
                · try replace hc8 := of_decide_eq_false hc8
                  refine Run.skip ?_
                  refine Run.seq ?_
                  refine Run.seq ?_
                  refine Run.quiet (by intro h; cases h) ?_
                  refine QOps.st rfl rfl (Yv.move rfl).yl ?_
                  refine QOps.st rfl rfl (Yv.move rfl).yl ?_
                  refine QOps.st rfl rfl (Yv.neI rfl rfl).yl ?_
                  refine QOps.nil ?_
                  refine Run.cond rfl (fun hc9 => ?_) (fun hc9 => ?_)
                  · exfalso
                    first | (simp at hc9; done) | (simp at hc9; omega) | omega
                  · try replace hc9 := of_decide_eq_false hc9
                    refine Run.skip ?_
                    refine Run.seq ?_
                    refine Run.quiet (by intro h; cases h) ?_
                    refine QOps.st rfl rfl (Yv.assign rfl).yl ?_
                    refine QOps.nil ?_
                    refine Run.ret ?_
                    refine retQ.of (.inr rfl) rfl (.tmp rfl .nil) (fun w' hw' => ?_)
                    refine ⟨?_, hw'.bel.below⟩
                    exact rfl
end Go.Proofs.Ythgekachgpcjbaa
