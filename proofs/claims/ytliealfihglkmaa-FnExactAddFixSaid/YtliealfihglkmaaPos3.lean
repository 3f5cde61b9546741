/- Fixes: when they are consistent, the slowest pace. Conditions: none. -/
import Derived.Test.YtliealfihglkmaaPos2
namespace Go.Proofs.Ytliealfihglkmaa
open Go.RowKit
/-- The number from its sign. -/
theorem mul_bnd {p m : Int} {P M : Nat} (h1 : 0 ≤ p) (h2 : p ≤ P) (h3 : 0 ≤ m) (h4 : m ≤ M) : 0 ≤ p * m ∧ p * m ≤ (P * M : Nat) := by
  refine ⟨Int.mul_nonneg h1 h3, ?_⟩
  rw [Int.natCast_mul]
  exact Int.mul_le_mul h2 h4 h3 (by omega)
theorem absOf_spec {w : World} {n : Int} (h1 : -9223372036854775807 ≤ n) (h2 : n ≤ 9223372036854775807) : Calls Try.prog 79 #[.int .i64 n] w (RetB w (.int .i64 (max n (-n)))) := by
  refine calls_of_run (vs := [_]) (L := [(0, _)]) (n := 7) (F := []) (H := []) Try.func79 rfl rfl rfl rfl (HOk.start _) ?_
  refine Run.seq ?_
  refine Run.quiet (by intro h; cases h) ?_
  refine QOps.st rfl rfl (Yv.assign rfl).yl ?_
  refine QOps.nil ?_
  refine Run.seq ?_
  refine Run.quiet (by intro h; cases h) ?_
  refine QOps.st rfl rfl (Yv.move rfl).yl ?_
  refine QOps.st rfl rfl (Yv.move rfl).yl ?_
  refine QOps.st rfl rfl (Yv.neg rfl (by omega)).yl ?_
  refine QOps.st rfl rfl (Yv.max2 rfl rfl).yl ?_
  refine QOps.st rfl rfl (Yv.assign rfl).yl ?_
  refine QOps.nil ?_
  refine Run.ret ?_
  refine retQ.of (.inr rfl) rfl (.tmp rfl .nil) (fun w' hw' => ?_)
  refine ⟨?_, hw'.bel.below⟩
  exact rfl
theorem l1Most_spec {w : World} {n m : Int} : Calls Try.prog 68 #[.int .i64 n, .int .i64 m] w (RetB w (.int .i64 (max n m))) := by
  refine calls_of_run (vs := [_, _]) (L := [(0, _), (1, _)]) (n := 10) (F := []) (H := []) Try.func68 rfl rfl rfl rfl (HOk.start _) ?_
  refine Run.seq ?_
  refine Run.quiet (by intro h; cases h) ?_
  refine QOps.st rfl rfl (Yv.assign rfl).yl ?_
  refine QOps.nil ?_
  refine Run.seq ?_
  refine Run.seq ?_
  refine Run.quiet (by intro h; cases h) ?_
  refine QOps.st rfl rfl (Yv.move rfl).yl ?_
  refine QOps.st rfl rfl (Yv.move rfl).yl ?_
  refine QOps.st rfl rfl (Yv.gtr rfl rfl).yl ?_
  refine QOps.nil ?_
  refine Run.cond rfl (fun hc1 => ?_) (fun hc1 => ?_)
  · try replace hc1 := of_decide_eq_true hc1
    refine Run.seq ?_
    refine Run.quiet (by intro h; cases h) ?_
    refine QOps.st rfl rfl (Yv.move rfl).yl ?_
    refine QOps.st rfl rfl (Yv.assign rfl).yl ?_
    refine QOps.nil ?_
    refine Run.ret ?_
    refine retQ.of (.inr rfl) rfl (.tmp rfl .nil) (fun w' hw' => ?_)
    refine ⟨?_, hw'.bel.below⟩
    refine retI_eq ?_
    omega
  · try replace hc1 := of_decide_eq_false hc1
    refine Run.skip ?_
    refine Run.seq ?_
    refine Run.quiet (by intro h; cases h) ?_
    refine QOps.st rfl rfl (Yv.move rfl).yl ?_
    refine QOps.st rfl rfl (Yv.assign rfl).yl ?_
    refine QOps.nil ?_
    refine Run.ret ?_
    refine retQ.of (.inr rfl) rfl (.tmp rfl .nil) (fun w' hw' => ?_)
    refine ⟨?_, hw'.bel.below⟩
    refine retI_eq ?_
    omega
theorem l1Least_spec {w : World} {n m : Int} : Calls Try.prog 69 #[.int .i64 n, .int .i64 m] w (RetB w (.int .i64 (min n m))) := by
  refine calls_of_run (vs := [_, _]) (L := [(0, _), (1, _)]) (n := 10) (F := []) (H := []) Try.func69 rfl rfl rfl rfl (HOk.start _) ?_
  refine Run.seq ?_
  refine Run.quiet (by intro h; cases h) ?_
  refine QOps.st rfl rfl (Yv.assign rfl).yl ?_
  refine QOps.nil ?_
  refine Run.seq ?_
  refine Run.seq ?_
  refine Run.quiet (by intro h; cases h) ?_
  refine QOps.st rfl rfl (Yv.move rfl).yl ?_
  refine QOps.st rfl rfl (Yv.move rfl).yl ?_
  refine QOps.st rfl rfl (Yv.lss rfl rfl).yl ?_
  refine QOps.nil ?_
  refine Run.cond rfl (fun hc1 => ?_) (fun hc1 => ?_)
  · try replace hc1 := of_decide_eq_true hc1
    refine Run.seq ?_
    refine Run.quiet (by intro h; cases h) ?_
    refine QOps.st rfl rfl (Yv.move rfl).yl ?_
    refine QOps.st rfl rfl (Yv.assign rfl).yl ?_
    refine QOps.nil ?_
    refine Run.ret ?_
    refine retQ.of (.inr rfl) rfl (.tmp rfl .nil) (fun w' hw' => ?_)
    refine ⟨?_, hw'.bel.below⟩
    refine retI_eq ?_
    omega
  · try replace hc1 := of_decide_eq_false hc1
    refine Run.skip ?_
    refine Run.seq ?_
    refine Run.quiet (by intro h; cases h) ?_
    refine QOps.st rfl rfl (Yv.move rfl).yl ?_
    refine QOps.st rfl rfl (Yv.assign rfl).yl ?_
    refine QOps.nil ?_
    refine Run.ret ?_
    refine retQ.of (.inr rfl) rfl (.tmp rfl .nil) (fun w' hw' => ?_)
    refine ⟨?_, hw'.bel.below⟩
    refine retI_eq ?_
    omega
theorem l21Pace_spec {w : World} {n : Int} : Calls Try.prog 55 #[.int .i64 n] w (RetB w (.bool (inB n 0 500))) := by
  refine calls_of_run (vs := [_]) (L := [(0, _)]) (n := 5) (F := []) (H := []) Try.func55 rfl rfl rfl rfl (HOk.start _) ?_
  refine Run.seq ?_
  refine Run.quiet (by intro h; cases h) ?_
  refine QOps.st rfl rfl (Yv.assign rfl).yl ?_
  refine QOps.nil ?_
  refine Run.seq ?_
  refine Run.quiet (by intro h; cases h) ?_
  refine QOps.st rfl rfl (Yv.move rfl).yl ?_
  refine QOps.st rfl rfl (Yl.call callable60 (.cons rfl (.cons rfl (.cons rfl (.nil)))) (fun w' hw' => l1In_spec)) ?_
  refine QOps.st rfl rfl (Yv.assign rfl).yl ?_
  refine QOps.nil ?_
  refine Run.ret ?_
  refine retQ.of (.inr rfl) rfl (.tmp rfl .nil) (fun w' hw' => ?_)
  refine ⟨?_, hw'.bel.below⟩
  exact rfl
theorem isPace_spec {w : World} {A : Option Addr} {c : Nat} {fs : List Fix} {n : Int} (hs : Sl w 3 A fs.length c (fs.flatMap Fix.enc)) :
    Calls Try.prog 57 #[.slice A fs.length c, .int .i64 n] w (RetB w (.bool (areFixes fs && inB n 0 500))) := by
  refine calls_of_run (vs := [_, _]) (L := [(0, _), (1, _)]) (n := 11) (F := []) (H := []) Try.func57 rfl rfl rfl rfl (HOk.start _) ?_
  refine Run.seq ?_
  refine Run.quiet (by intro h; cases h) ?_
  refine QOps.st rfl rfl (Yv.assign rfl).yl ?_
  refine QOps.nil ?_
  refine Run.seq ?_
  refine Run.quiet (by intro h; cases h) ?_
  refine QOps.st rfl rfl (Yv.move rfl).yl ?_
  refine QOps.st rfl rfl (Yl.call callable17 (.cons rfl (.nil)) (fun w' hw' => AreFixes_spec ((Rd.arg hs) w' hw'))) ?_
  refine QOps.st rfl rfl (Yv.move rfl).yl ?_
  refine' QOps.and [_, _] _ (.tmp 9) rfl rfl rfl rfl rfl rfl (fun hg1 => ?_) ?_
  rotate_left
  · try replace hg1 := of_decide_eq_true hg1
    refine QOps.st rfl rfl (Yv.move rfl).yl ?_
    refine QOps.st rfl rfl (Yl.call callable53 (.cons rfl (.cons rfl (.cons rfl (.nil)))) (fun w' hw' => inside_spec)) ?_
    exact QOps.nil rfl
  refine QOps.st rfl rfl (Yv.assign rfl).yl ?_
  refine QOps.nil ?_
  refine Run.ret ?_
  refine retQ.of (.inr rfl) rfl (.tmp rfl .nil) (fun w' hw' => ?_)
  refine ⟨?_, hw'.bel.below⟩
  exact rfl
/-- Each number of a fix is in its range. -/
def Fix.ok (f : Fix) : Prop := 0 ≤ f.minute ∧ f.minute ≤ 9999 ∧ 0 ≤ f.place ∧ f.place ≤ 100000 ∧ 0 ≤ f.error ∧ f.error ≤ 1000
/-- Two fixes fit at a pace. -/
def pairOk (a b : Fix) (pace : Int) : Bool := decide (max (a.place - b.place) (b.place - a.place) ≤ a.error + b.error + pace * max (a.minute - b.minute) (b.minute - a.minute))
theorem pairOk_symm {a b : Fix} {p : Int} : pairOk a b p = pairOk b a p := by
  unfold pairOk
  rw [Int.max_comm (a.place - b.place), Int.max_comm (a.minute - b.minute), Int.add_comm a.error]
theorem pairOk_true {a b : Fix} {p : Int} (h : ¬ a.error + b.error + p * max (a.minute - b.minute) (-(a.minute - b.minute)) < max (a.place - b.place) (-(a.place - b.place))) : pairOk a b p = true := by
  rw [Int.neg_sub, Int.neg_sub] at h
  exact decide_eq_true (Int.not_lt.1 h)
theorem pairOk_not {a b : Fix} {p : Int} (h : a.error + b.error + p * max (a.minute - b.minute) (-(a.minute - b.minute)) < max (a.place - b.place) (-(a.place - b.place))) : pairOk a b p = false := by
  rw [Int.neg_sub, Int.neg_sub] at h
  exact decide_eq_false (Int.not_le.2 h)
theorem nth_cut {α : Type} [Inhabited α] {l : List α} {a n m : Nat} (h : m < n) : nth ((l.drop a).take n) m = nth l (a + m) := by
  simp [nth, h, List.getElem?_drop]
theorem l21Pair_spec {w : World} {a b : Fix} {pace : Int} (ha : a.ok) (hb : b.ok) (h1 : 0 ≤ pace) (h2 : pace ≤ 500) :
    Calls Try.prog 78 #[.agg a.enc.toArray, .agg b.enc.toArray, .int .i64 pace] w (RetB w (.bool (pairOk a b pace))) := by
  unfold Fix.ok at ha hb
  have hm := mul_bnd (P := 500) (M := 9999) (p := pace) (m := max (a.minute - b.minute) (b.minute - a.minute)) h1 (by omega) (by omega) (by omega)
  refine calls_of_run (vs := [_, _, _]) (L := [(0, _), (1, _), (2, _)]) (n := 40) (F := []) (H := []) Try.func78 rfl rfl rfl rfl (HOk.start _) ?_
  refine Run.seq ?_
  refine Run.ops ?_
  refine SOps.one rfl (One.box (cs := [_, _, _]) rfl rfl rfl (fun b1 => ?_))
  refine SOps.one rfl (One.box (cs := [_, _, _]) rfl rfl rfl (fun b2 => ?_))
  refine SOps.st rfl rfl (Yv.assign rfl).yl ?_
  refine SOps.nil ?_
  refine Run.seq ?_
  refine Run.quiet (by intro h; cases h) ?_
  refine QOps.st rfl rfl (Yv.fieldAddr fld49_1 rfl).yl ?_
  refine QOps.st rfl rfl (Yv.loadB (i := 1) lay3 rfl rfl rfl rfl).yl ?_
  refine QOps.st rfl rfl (Yv.fieldAddr fld49_1 rfl).yl ?_
  refine QOps.st rfl rfl (Yv.loadB (i := 0) lay3 rfl rfl rfl rfl).yl ?_
  refine QOps.st rfl rfl (Yv.sub rfl rfl (by omega)).yl ?_
  refine QOps.st rfl rfl (Yv.fieldAddr fld49_1 rfl).yl ?_
  refine QOps.st rfl rfl (Yv.loadB (i := 0) lay3 rfl rfl rfl rfl).yl ?_
  refine QOps.st rfl rfl (Yv.fieldAddr fld49_1 rfl).yl ?_
  refine QOps.st rfl rfl (Yv.loadB (i := 1) lay3 rfl rfl rfl rfl).yl ?_
  refine QOps.st rfl rfl (Yv.sub rfl rfl (by omega)).yl ?_
  refine QOps.st rfl rfl (Yl.call callable68 (.cons rfl (.cons rfl (.nil))) (fun w' hw' => l1Most_spec)) ?_
  refine QOps.st rfl rfl (Yv.assign rfl).yl ?_
  refine QOps.nil ?_
  refine Run.seq ?_
  refine Run.quiet (fun _ => ⟨by kernel_rfl, by kernel_rfl⟩) ?_
  refine QOps.st rfl rfl (Yv.move rfl).yl ?_
  refine QOps.st rfl rfl (Yv.fieldAddr fld49_2 rfl).yl ?_
  refine QOps.st rfl rfl (Yv.loadB (i := 1) lay3 rfl rfl rfl rfl).yl ?_
  refine QOps.st rfl rfl (Yv.fieldAddr fld49_2 rfl).yl ?_
  refine QOps.st rfl rfl (Yv.loadB (i := 0) lay3 rfl rfl rfl rfl).yl ?_
  refine QOps.st rfl rfl (Yv.add rfl rfl (by omega)).yl ?_
  refine QOps.st rfl rfl (Yv.move rfl).yl ?_
  refine QOps.st rfl rfl (Yv.fieldAddr fld49_0 rfl).yl ?_
  refine QOps.st rfl rfl (Yv.loadB (i := 1) lay3 rfl rfl rfl rfl).yl ?_
  refine QOps.st rfl rfl (Yv.fieldAddr fld49_0 rfl).yl ?_
  refine QOps.st rfl rfl (Yv.loadB (i := 0) lay3 rfl rfl rfl rfl).yl ?_
  refine QOps.st rfl rfl (Yv.sub rfl rfl (by omega)).yl ?_
  refine QOps.st rfl rfl (Yv.fieldAddr fld49_0 rfl).yl ?_
  refine QOps.st rfl rfl (Yv.loadB (i := 0) lay3 rfl rfl rfl rfl).yl ?_
  refine QOps.st rfl rfl (Yv.fieldAddr fld49_0 rfl).yl ?_
  refine QOps.st rfl rfl (Yv.loadB (i := 1) lay3 rfl rfl rfl rfl).yl ?_
  refine QOps.st rfl rfl (Yv.sub rfl rfl (by omega)).yl ?_
  refine QOps.st rfl rfl (Yl.call callable68 (.cons rfl (.cons rfl (.nil))) (fun w' hw' => l1Most_spec)) ?_
  refine QOps.st rfl rfl (Yv.mul rfl rfl (by omega)).yl ?_
  refine QOps.st rfl rfl (Yv.add rfl rfl (by omega)).yl ?_
  refine QOps.st rfl rfl (Yv.leq rfl rfl).yl ?_
  refine QOps.st rfl rfl (Yv.assign rfl).yl ?_
  refine QOps.nil ?_
  refine Run.ret ?_
  refine retQ.of (.inr rfl) rfl (.tmp rfl .nil) (fun w' hw' => ?_)
  refine ⟨?_, hw'.bel.below⟩
  exact rfl
/-- Every two fixes fit. -/
def consistent (fs : List Fix) (pace : Int) : Bool := allTo fs.length fun i => allTo i fun j => pairOk (nth fs j) (nth fs i) pace
def AllOk (fs : List Fix) : Prop := ∀ k, k < fs.length → (nth fs k).ok
theorem areFixes_all {fs : List Fix} (h : areFixes fs = true) : AllOk fs := fun _ hk => areFixes_fix h hk
theorem consistent_iff {fs : List Fix} {pace : Int} : consistent fs pace = true ↔ ∀ i j, i < j → j < fs.length → pairOk (nth fs i) (nth fs j) pace = true := by
  simp only [consistent, allTo_iff]
  exact ⟨fun h i j hij hj => h j hj i hij, fun h j hj i hij => h i j hij hj⟩
theorem consistent_false {fs : List Fix} {pace : Int} (i j : Nat) (hij : i < j) (hj : j < fs.length) (h : pairOk (nth fs i) (nth fs j) pace = false) : consistent fs pace = false := by
  rw [← Bool.not_eq_true, consistent_iff]
  intro hh
  rw [hh i j hij hj] at h
  cases h
theorem l21Consistent_spec {w : World} {A : Option Addr} {c : Nat} {fs : List Fix} {pace : Int} (hs : Sl w 3 A fs.length c (fs.flatMap Fix.enc)) (hok : AllOk fs) (h1 : 0 ≤ pace) (h2 : pace ≤ 500) :
    Calls Try.prog 56 #[.slice A fs.length c, .int .i64 pace] w (RetB w (.bool (consistent fs pace))) := by
  have hmx := Sl.lenle hs
  refine calls_of_run (vs := [_, _]) (L := [(0, _), (1, _)]) (n := 29) (F := []) (H := []) Try.func56 rfl rfl rfl rfl (HOk.start _) ?_
  refine Run.seq ?_
  refine Run.quiet (by intro h; cases h) ?_
  refine QOps.st rfl rfl (Yv.assign rfl).yl ?_
  refine QOps.nil ?_
  refine Run.seq ?_
  refine Run.seq ?_
  refine Run.quiet (by intro h; cases h) ?_
  refine QOps.st rfl rfl (Yv.assign rfl).yl ?_
  refine QOps.nil ?_
  refine Run.block ?_
  refine Run.loop (S := Nat) (fun s => match s with | k => k ≤ fs.length ∧ ∀ i j, i < j → j < k → pairOk (nth fs i) (nth fs j) pace = true) (fun s => match s with | k => [(0, .slice A fs.length c), (1, .int .i64 pace), (5, .int .i64 (k : Int))]) (fun s => match s with | k => []) (fun s => match s with | k => fs.length - k) 0 ?_ (SubE.cons rfl (SubE.cons rfl (SubE.cons rfl (SubE.nil _)))) (List.Sublist.refl _) ?_
  · exact ⟨by omega, fun i j hi hj => by omega⟩
  · rintro k ⟨hk, hall⟩
    show Run _ _ _ _ _ [(0, .slice A fs.length c), (1, .int .i64 pace), (5, .int .i64 (k : Int))] [] _
    refine Run.seq ?_
    refine Run.seq ?_
    refine Run.quiet (by intro h; cases h) ?_
    refine QOps.st rfl rfl (Yv.move rfl).yl ?_
    refine QOps.st rfl rfl (Yv.move rfl).yl ?_
    refine QOps.st rfl rfl (Yv.lenS el25s rfl).yl ?_
    refine QOps.st rfl rfl (Yv.lss rfl rfl).yl ?_
    refine QOps.nil ?_
    refine Run.cond rfl (fun hc1 => ?_) (fun hc1 => ?_)
    · try replace hc1 := of_decide_eq_true hc1
      refine Run.skip ?_
      refine Run.seq ?_
      refine Run.block ?_
      refine Run.seq ?_
      refine Run.quiet (by intro h; cases h) ?_
      refine QOps.st rfl rfl (Yv.assign rfl).yl ?_
      refine QOps.nil ?_
      refine Run.block ?_
      refine Run.loop (S := Nat) (fun s => match s with | m => m ≤ k ∧ ∀ i, i < m → pairOk (nth fs i) (nth fs k) pace = true) (fun s => match s with | m => [(0, .slice A fs.length c), (1, .int .i64 pace), (5, .int .i64 (k : Int)), (6, .int .i64 (m : Int))]) (fun s => match s with | m => []) (fun s => match s with | m => k - m) 0 ?_ (SubE.cons rfl (SubE.cons rfl (SubE.cons rfl (SubE.cons rfl (SubE.nil _))))) (List.Sublist.refl _) ?_
      · exact ⟨by omega, fun i hi => by omega⟩
      · rintro m ⟨hm, hin⟩
        show Run _ _ _ _ _ [(0, .slice A fs.length c), (1, .int .i64 pace), (5, .int .i64 (k : Int)), (6, .int .i64 (m : Int))] [] _
        have ok1 := fun h => hok m h
        have ok2 := hok k (by omega)
        refine Run.seq ?_
        refine Run.seq ?_
        refine Run.quiet (by intro h; cases h) ?_
        refine QOps.st rfl rfl (Yv.move rfl).yl ?_
        refine QOps.st rfl rfl (Yv.move rfl).yl ?_
        refine QOps.st rfl rfl (Yv.lss rfl rfl).yl ?_
        refine QOps.nil ?_
        refine Run.cond rfl (fun hc2 => ?_) (fun hc2 => ?_)
        · try replace hc2 := of_decide_eq_true hc2
          refine Run.skip ?_
          refine Run.seq ?_
          refine Run.block ?_
          refine Run.seq ?_
          refine Run.quiet (fun _ => ⟨by kernel_rfl, by kernel_rfl⟩) ?_
          refine QOps.st rfl rfl (Yv.move rfl).yl ?_
          refine QOps.st rfl rfl (Yv.move rfl).yl ?_
          refine QOps.st rfl rfl (Yv.indexAddr m el25 rfl rfl rfl (Rd.arg hs) (by omega)).yl ?_
          refine QOps.st rfl rfl (Yv.loadEs lay49 rfl Fix.len (Rd.arg hs) (by first | omega | (simp; omega)) (by decide)).yl ?_
          refine QOps.st rfl rfl (Yv.move rfl).yl ?_
          refine QOps.st rfl rfl (Yv.move rfl).yl ?_
          refine QOps.st rfl rfl (Yv.indexAddr k el25 rfl rfl rfl (Rd.arg hs) (by omega)).yl ?_
          refine QOps.st rfl rfl (Yv.loadEs lay49 rfl Fix.len (Rd.arg hs) (by first | omega | (simp; omega)) (by decide)).yl ?_
          refine QOps.st rfl rfl (Yv.move rfl).yl ?_
          refine QOps.st rfl rfl (Yl.call callable78 (.cons rfl (.cons rfl (.cons rfl (.nil)))) (fun w' hw' => l21Pair_spec (hok m (by omega)) (hok k (by omega)) h1 h2)) ?_
          refine QOps.st rfl rfl (Yv.not rfl).yl ?_
          refine QOps.nil ?_
          refine Run.cond rfl (fun hc3 => ?_) (fun hc3 => ?_)
          · try replace hc3 := of_decide_eq_true hc3
            refine Run.seq ?_
            refine Run.quiet (by intro h; cases h) ?_
            refine QOps.st rfl rfl (Yv.assign rfl).yl ?_
            refine QOps.nil ?_
            refine Run.ret ?_
            refine retQ.of (.inr rfl) rfl (.tmp rfl .nil) (fun w' hw' => ?_)
            refine ⟨?_, hw'.bel.below⟩
            refine retB_eq ?_
            exact (consistent_false m k (by omega) (by omega) (by simpa using hc3)).symm
          · try replace hc3 := of_decide_eq_false hc3
            refine Run.skip ?_
            refine Run.quiet (by intro h; cases h) ?_
            refine QOps.st rfl rfl (Yv.move rfl).yl ?_
            refine QOps.st rfl rfl (Yv.succN rfl rfl (by omega)).yl ?_
            refine QOps.st rfl rfl (Yv.assign rfl).yl ?_
            refine QOps.nil ?_
            refine ⟨m + 1, ?_, ?_, (SubE.cons rfl (SubE.cons rfl (SubE.cons rfl (SubE.cons rfl (SubE.nil _))))), (List.Sublist.refl _)⟩
            · exact ⟨by omega, all_succ hin (by simpa using hc3)⟩
            · first | omega | (dsimp only; omega)
        · try replace hc2 := of_decide_eq_false hc2
          refine Run.exit ?_
          refine Run.quiet (by intro h; cases h) ?_
          refine QOps.st rfl rfl (Yv.move rfl).yl ?_
          refine QOps.st rfl rfl (Yv.succN rfl rfl (by omega)).yl ?_
          refine QOps.st rfl rfl (Yv.assign rfl).yl ?_
          refine QOps.nil ?_
          refine ⟨k + 1, ?_, ?_, (SubE.cons rfl (SubE.cons rfl (SubE.cons rfl (SubE.nil _)))), (List.Sublist.refl _)⟩
          · exact ⟨by omega, fun i j hij hj => by
                  rcases Nat.lt_or_ge j k with h | h
                  · exact hall i j hij h
                  · obtain rfl : j = k := by omega
                    exact hin i (by omega)⟩
          · first | omega | (dsimp only; omega)
    · try replace hc1 := of_decide_eq_false hc1
      refine Run.exit ?_
      refine Run.seq ?_
      refine Run.quiet (by intro h; cases h) ?_
      refine QOps.st rfl rfl (Yv.assign rfl).yl ?_
      refine QOps.nil ?_
      refine Run.ret ?_
      refine retQ.of (.inr rfl) rfl (.tmp rfl .nil) (fun w' hw' => ?_)
      refine ⟨?_, hw'.bel.below⟩
      refine retB_eq ?_
      exact (consistent_iff.2 (fun i j hij hj => hall i j hij (by omega))).symm
theorem areConsistent_spec {w : World} {A : Option Addr} {c : Nat} {fs : List Fix} {pace : Int} (hs : Sl w 3 A fs.length c (fs.flatMap Fix.enc)) (hok : AllOk fs) (h1 : 0 ≤ pace) (h2 : pace ≤ 500) :
    Calls Try.prog 58 #[.slice A fs.length c, .int .i64 pace] w (RetB w (.bool (consistent fs pace))) := by
  have hmx := Sl.lenle hs
  refine calls_of_run (vs := [_, _]) (L := [(0, _), (1, _)]) (n := 48) (F := []) (H := []) Try.func58 rfl rfl rfl rfl (HOk.start _) ?_
  refine Run.seq ?_
  refine Run.quiet (by intro h; cases h) ?_
  refine QOps.st rfl rfl (Yv.assign rfl).yl ?_
  refine QOps.nil ?_
  refine Run.seq ?_
  refine Run.seq ?_
  refine Run.quiet (by intro h; cases h) ?_
  refine QOps.st rfl rfl (Yv.move rfl).yl ?_
  refine QOps.st rfl rfl (Yv.lenS el25s rfl).yl ?_
  refine QOps.st rfl rfl (Yv.move rfl).yl ?_
  refine QOps.nil ?_
  refine Run.block ?_
  refine Run.loop (S := Nat) (fun s => match s with | k => k ≤ fs.length ∧ ∀ i j, i < j → i < k → j < fs.length → pairOk (nth fs i) (nth fs j) pace = true) (fun s => match s with | k => [(0, .slice A fs.length c), (1, .int .i64 pace), (9, .slice A fs.length c), (10, .int .i64 (fs.length : Int)), (11, .int .i64 (k : Int))]) (fun s => match s with | k => []) (fun s => match s with | k => fs.length - k) 0 ?_ (SubE.cons rfl (SubE.cons rfl (SubE.cons rfl (SubE.cons rfl (SubE.cons rfl (SubE.nil _)))))) (List.Sublist.refl _) ?_
  · exact ⟨by omega, fun i j hi hj => by omega⟩
  · rintro k ⟨hk, hall⟩
    show Run _ _ _ _ _ [(0, .slice A fs.length c), (1, .int .i64 pace), (9, .slice A fs.length c), (10, .int .i64 (fs.length : Int)), (11, .int .i64 (k : Int))] [] _
    refine Run.seq ?_
    refine Run.quiet (by intro h; cases h) ?_
    refine QOps.st rfl rfl (Yv.lss rfl rfl).yl ?_
    refine QOps.nil ?_
    refine Run.seq ?_
    refine Run.cond rfl (fun hc1 => ?_) (fun hc1 => ?_)
    · try replace hc1 := of_decide_eq_true hc1
      refine Run.skip ?_
      refine Run.seq ?_
      refine Run.block ?_
      refine Run.seq ?_
      refine Run.ops ?_
      refine SOps.st rfl rfl (Yv.move rfl).yl ?_
      refine SOps.st rfl rfl (Yv.indexAddr k el25 rfl rfl rfl (Rd.arg hs) (by omega)).yl ?_
      refine SOps.st rfl rfl (Yv.loadEs lay49 rfl Fix.len (Rd.arg hs) (by first | omega | (simp; omega)) (by decide)).yl ?_
      refine SOps.one rfl (One.alloc rfl zero49 (fun b1 => ?_))
      refine SOps.st rfl rfl (Yv.assign rfl).yl ?_
      refine SOps.one rfl (One.store (i := 0) (off := 0) (vs := [_, _, _]) (cs' := [_, _, _]) (H' := [_]) lay49 rfl rfl rfl rfl rfl rfl rfl rfl rfl rfl ?_)
      refine SOps.nil ?_
      refine Run.seq ?_
      refine Run.quiet (by intro h; cases h) ?_
      refine QOps.st rfl rfl (Yv.move rfl).yl ?_
      refine QOps.st rfl rfl (Yv.move rfl).yl ?_
      refine QOps.st rfl rfl (Yv.succN rfl rfl (by omega)).yl ?_
      refine QOps.st rfl rfl (Yv.cutFrom ((k + 1)) el25 rfl rfl rfl (by omega)).yl ?_
      refine QOps.st rfl rfl (Yv.lenS el25s rfl).yl ?_
      refine QOps.st rfl rfl (Yv.move rfl).yl ?_
      refine QOps.nil ?_
      refine Run.block ?_
      refine Run.loop (S := Nat) (fun s => match s with | m => m ≤ fs.length - (k + 1) ∧ ∀ i, i < m → pairOk (nth fs k) (nth fs (k + 1 + i)) pace = true) (fun s => match s with | m => [(0, .slice A fs.length c), (1, .int .i64 pace), (9, .slice A fs.length c), (10, .int .i64 (fs.length : Int)), (11, .int .i64 (k : Int)), (19, .slice (cutA A c (k + 1) 3) (fs.length - (k + 1)) (c - (k + 1))), (20, .int .i64 ((fs.length - (k + 1) : Nat) : Int)), (21, .int .i64 (m : Int)), (6, .pointer (some ⟨b1, 0, none⟩))]) (fun s => match s with | m => [.blk b1 49 (nth fs k).enc]) (fun s => match s with | m => fs.length - (k + 1) - m) 0 ?_ (SubE.cons rfl (SubE.cons rfl (SubE.cons rfl (SubE.cons rfl (SubE.cons rfl (SubE.cons rfl (SubE.cons rfl (SubE.cons rfl (SubE.cons rfl (SubE.nil _)))))))))) (List.Sublist.refl _) ?_
      · exact ⟨by omega, fun i hi => by omega⟩
      · rintro m ⟨hm, hin⟩
        show Run _ _ _ _ _ [(0, .slice A fs.length c), (1, .int .i64 pace), (9, .slice A fs.length c), (10, .int .i64 (fs.length : Int)), (11, .int .i64 (k : Int)), (19, .slice (cutA A c (k + 1) 3) (fs.length - (k + 1)) (c - (k + 1))), (20, .int .i64 ((fs.length - (k + 1) : Nat) : Int)), (21, .int .i64 (m : Int)), (6, .pointer (some ⟨b1, 0, none⟩))] [.blk b1 49 (nth fs k).enc] _
        refine Run.seq ?_
        refine Run.quiet (by intro h; cases h) ?_
        refine QOps.st rfl rfl (Yv.lss rfl rfl).yl ?_
        refine QOps.nil ?_
        refine Run.seq ?_
        refine Run.cond rfl (fun hc2 => ?_) (fun hc2 => ?_)
        · try replace hc2 := of_decide_eq_true hc2
          have hcut : nth ((fs.drop (k + 1)).take (fs.length - (k + 1))) m = nth fs (k + 1 + m) := nth_cut (by omega)
          have ok1 := hok k (by omega)
          have ok2 := hok (k + 1 + m) (by omega)
          unfold Fix.ok at ok1 ok2
          have ok3 := ok2
          rw [← hcut] at ok3
          have hm := mul_bnd (P := 500) (M := 9999) (p := pace) (m := max ((nth fs k).minute - (nth ((fs.drop (k + 1)).take (fs.length - (k + 1))) m).minute) (-((nth fs k).minute - (nth ((fs.drop (k + 1)).take (fs.length - (k + 1))) m).minute))) h1 (by omega) (by omega) (by omega)
          refine Run.skip ?_
          refine Run.seq ?_
          refine Run.block ?_
          refine Run.seq ?_
          refine Run.ops ?_
          refine SOps.st rfl rfl (Yv.indexAddr m el25 rfl rfl rfl (Rd.cutT Fix.len (Rd.arg hs) (by omega : k + 1 ≤ fs.length) (Nat.le_refl _)) (by omega)).yl ?_
          refine SOps.st rfl rfl (Yv.loadEs lay49 rfl Fix.len (Rd.cutT Fix.len (Rd.arg hs) (by omega : k + 1 ≤ fs.length) (Nat.le_refl _)) (by first | omega | (simp; omega)) (by decide)).yl ?_
          refine SOps.one rfl (One.alloc rfl zero49 (fun b2 => ?_))
          refine SOps.one rfl (One.store (i := 0) (off := 0) (vs := [_, _, _]) (cs' := [_, _, _]) (H' := [_, _]) lay49 rfl rfl rfl rfl rfl rfl rfl rfl rfl rfl ?_)
          refine SOps.nil ?_
          refine Run.seq ?_
          refine Run.quiet (fun _ => ⟨by kernel_rfl, by kernel_rfl⟩) ?_
          refine QOps.st rfl rfl (Yv.fieldAddr fld49_1 rfl).yl ?_
          refine QOps.st rfl rfl (Yv.loadB (i := 1) lay3 rfl rfl rfl rfl).yl ?_
          refine QOps.st rfl rfl (Yv.fieldAddr fld49_1 rfl).yl ?_
          refine QOps.st rfl rfl (Yv.loadB (i := 0) lay3 rfl rfl rfl rfl).yl ?_
          refine QOps.st rfl rfl (Yv.sub rfl rfl (by omega)).yl ?_
          refine QOps.st rfl rfl (Yl.call callable79 (.cons rfl (.nil)) (fun w' hw' => absOf_spec (by omega) (by omega))) ?_
          refine QOps.st rfl rfl (Yv.fieldAddr fld49_2 rfl).yl ?_
          refine QOps.st rfl rfl (Yv.loadB (i := 1) lay3 rfl rfl rfl rfl).yl ?_
          refine QOps.st rfl rfl (Yv.fieldAddr fld49_2 rfl).yl ?_
          refine QOps.st rfl rfl (Yv.loadB (i := 0) lay3 rfl rfl rfl rfl).yl ?_
          refine QOps.st rfl rfl (Yv.add rfl rfl (by omega)).yl ?_
          refine QOps.st rfl rfl (Yv.move rfl).yl ?_
          refine QOps.st rfl rfl (Yv.fieldAddr fld49_0 rfl).yl ?_
          refine QOps.st rfl rfl (Yv.loadB (i := 1) lay3 rfl rfl rfl rfl).yl ?_
          refine QOps.st rfl rfl (Yv.fieldAddr fld49_0 rfl).yl ?_
          refine QOps.st rfl rfl (Yv.loadB (i := 0) lay3 rfl rfl rfl rfl).yl ?_
          refine QOps.st rfl rfl (Yv.sub rfl rfl (by omega)).yl ?_
          refine QOps.st rfl rfl (Yl.call callable79 (.cons rfl (.nil)) (fun w' hw' => absOf_spec (by omega) (by omega))) ?_
          refine QOps.st rfl rfl (Yv.mul rfl rfl (by omega)).yl ?_
          refine QOps.st rfl rfl (Yv.add rfl rfl (by omega)).yl ?_
          refine QOps.st rfl rfl (Yv.gtr rfl rfl).yl ?_
          refine QOps.nil ?_
          refine Run.cond rfl (fun hc3 => ?_) (fun hc3 => ?_)
          · try replace hc3 := of_decide_eq_true hc3
            refine Run.seq ?_
            refine Run.quiet (by intro h; cases h) ?_
            refine QOps.st rfl rfl (Yv.assign rfl).yl ?_
            refine QOps.nil ?_
            refine Run.ret ?_
            refine retQ.of (.inr rfl) rfl (.tmp rfl .nil) (fun w' hw' => ?_)
            refine ⟨?_, hw'.bel.below⟩
            refine retB_eq ?_
            rw [hcut] at hc3
            exact (consistent_false k (k + 1 + m) (by omega) (by omega) (pairOk_not hc3)).symm
          · try replace hc3 := of_decide_eq_false hc3
            refine Run.skip ?_
            refine Run.quiet (by intro h; cases h) ?_
            refine QOps.st rfl rfl (Yv.succN rfl rfl (by omega)).yl ?_
            refine QOps.st rfl rfl (Yv.move rfl).yl ?_
            refine QOps.nil ?_
            refine ⟨m + 1, ?_, ?_, (SubE.cons rfl (SubE.cons rfl (SubE.cons rfl (SubE.cons rfl (SubE.cons rfl (SubE.cons rfl (SubE.cons rfl (SubE.cons rfl (SubE.cons rfl (SubE.nil _)))))))))), (List.Sublist.cons _ (List.Sublist.refl _))⟩
            · exact ⟨by omega, all_succ hin (by rw [hcut] at hc3; exact pairOk_true hc3)⟩
            · first | omega | (dsimp only; omega)
        · try replace hc2 := of_decide_eq_false hc2
          refine Run.exit ?_
          refine Run.quiet (by intro h; cases h) ?_
          refine QOps.st rfl rfl (Yv.succN rfl rfl (by omega)).yl ?_
          refine QOps.st rfl rfl (Yv.move rfl).yl ?_
          refine QOps.nil ?_
          refine ⟨k + 1, ?_, ?_, (SubE.cons rfl (SubE.cons rfl (SubE.cons rfl (SubE.cons rfl (SubE.cons rfl (SubE.nil _)))))), (List.Sublist.cons _ (List.Sublist.refl _))⟩
          · exact ⟨by omega, fun i j hij hj hl => by
                  rcases Nat.lt_or_ge i k with h | h
                  · exact hall i j hij h hl
                  · obtain rfl : i = k := by omega
                    have := hin (j - (i + 1)) (by omega)
                    rwa [show i + 1 + (j - (i + 1)) = j by omega] at this⟩
          · first | omega | (dsimp only; omega)
    · try replace hc1 := of_decide_eq_false hc1
      refine Run.exit ?_
      refine Run.seq ?_
      refine Run.quiet (by intro h; cases h) ?_
      refine QOps.st rfl rfl (Yv.assign rfl).yl ?_
      refine QOps.nil ?_
      refine Run.ret ?_
      refine retQ.of (.inr rfl) rfl (.tmp rfl .nil) (fun w' hw' => ?_)
      refine ⟨?_, hw'.bel.below⟩
      refine retB_eq ?_
      exact (consistent_iff.2 (fun i j hij hj => hall i j hij (by omega) hj)).symm
/-- Are they consistent at this pace, and can it be said? -/
def areConsistentOf (fs : List Fix) (pace : Int) : Bool × Bool := if (areFixes fs && inB pace 0 500) = true then (consistent fs pace, true) else (false, false)
theorem AreConsistent_spec {w : World} {A : Option Addr} {c : Nat} {fs : List Fix} {pace : Int} (hs : Sl w 3 A fs.length c (fs.flatMap Fix.enc)) :
    Calls Try.prog 20 #[.slice A fs.length c, .int .i64 pace] w (RetB w (.tuple #[.bool (areConsistentOf fs pace).1, .bool (areConsistentOf fs pace).2])) := by
  refine calls_of_run (vs := [_, _]) (L := [(0, _), (1, _)]) (n := 13) (F := []) (H := []) Try.func20 rfl rfl rfl rfl (HOk.start _) ?_
  refine Run.seq ?_
  refine Run.quiet (by intro h; cases h) ?_
  refine QOps.st rfl rfl (Yv.assign rfl).yl ?_
  refine QOps.st rfl rfl (Yv.assign rfl).yl ?_
  refine QOps.nil ?_
  refine Run.seq ?_
  refine Run.seq ?_
  refine Run.quiet (by intro h; cases h) ?_
  refine QOps.st rfl rfl (Yv.move rfl).yl ?_
  refine QOps.st rfl rfl (Yv.move rfl).yl ?_
  refine QOps.st rfl rfl (Yl.call callable57 (.cons rfl (.cons rfl (.nil))) (fun w' hw' => isPace_spec ((Rd.arg hs) w' hw'))) ?_
  refine QOps.st rfl rfl (Yv.not rfl).yl ?_
  refine QOps.nil ?_
  refine Run.cond rfl (fun hc1 => ?_) (fun hc1 => ?_)
  · try replace hc1 := of_decide_eq_true hc1
    have hn : ¬ (areFixes fs && inB pace 0 500) = true := by revert hc1; cases areFixes fs <;> cases inB pace 0 500 <;> simp
    refine Run.seq ?_
    refine Run.quiet (by intro h; cases h) ?_
    refine QOps.st rfl rfl (Yv.assign rfl).yl ?_
    refine QOps.st rfl rfl (Yv.assign rfl).yl ?_
    refine QOps.nil ?_
    refine Run.ret ?_
    refine retQ.of (.inr rfl) rfl (.tmp rfl (.tmp rfl .nil)) (fun w' hw' => ?_)
    refine ⟨?_, hw'.bel.below⟩
    unfold areConsistentOf; rw [if_neg hn]; rfl
  · try replace hc1 := of_decide_eq_false hc1
    have hy : (areFixes fs && inB pace 0 500) = true := by revert hc1; cases areFixes fs <;> cases inB pace 0 500 <;> simp
    have hok := areFixes_all (fs := fs) (by simp at hy; exact hy.1)
    have hp : 0 ≤ pace ∧ pace ≤ 500 := inB_iff.1 (by simp at hy; exact hy.2)
    refine Run.skip ?_
    refine Run.seq ?_
    refine Run.quiet (by intro h; cases h) ?_
    refine QOps.st rfl rfl (Yv.move rfl).yl ?_
    refine QOps.st rfl rfl (Yv.move rfl).yl ?_
    refine QOps.st rfl rfl (Yl.call callable58 (.cons rfl (.cons rfl (.nil))) (fun w' hw' => areConsistent_spec (((Rd.arg hs) w' hw')) hok hp.1 hp.2)) ?_
    refine QOps.st rfl rfl (Yv.assign rfl).yl ?_
    refine QOps.st rfl rfl (Yv.assign rfl).yl ?_
    refine QOps.nil ?_
    refine Run.ret ?_
    refine retQ.of (.inr rfl) rfl (.tmp rfl (.tmp rfl .nil)) (fun w' hw' => ?_)
    refine ⟨?_, hw'.bel.below⟩
    unfold areConsistentOf; rw [if_pos hy]; rfl
theorem sAreConsistent_spec {w : World} {A : Option Addr} {c : Nat} {fs : List Fix} {pace : Int} (hs : Sl w 3 A fs.length c (fs.flatMap Fix.enc)) :
    Calls Try.prog 19 #[.slice A fs.length c, .int .i64 pace] w (RetB w (.tuple #[.bool (areConsistentOf fs pace).1, .bool (areConsistentOf fs pace).2])) := by
  refine calls_of_run (vs := [_, _]) (L := [(0, _), (1, _)]) (n := 17) (F := []) (H := []) Try.func19 rfl rfl rfl rfl (HOk.start _) ?_
  refine Run.seq ?_
  refine Run.quiet (by intro h; cases h) ?_
  refine QOps.st rfl rfl (Yv.assign rfl).yl ?_
  refine QOps.st rfl rfl (Yv.assign rfl).yl ?_
  refine QOps.nil ?_
  refine Run.seq ?_
  refine Run.seq ?_
  refine Run.quiet (by intro h; cases h) ?_
  refine QOps.st rfl rfl (Yv.move rfl).yl ?_
  refine QOps.st rfl rfl (Yl.call callable51 (.cons rfl (.nil)) (fun w' hw' => l21Good_spec ((Rd.arg hs) w' hw'))) ?_
  refine QOps.st rfl rfl (Yv.not rfl).yl ?_
  refine QOps.st rfl rfl (Yv.move rfl).yl ?_
  refine' QOps.or [_, _, _] _ (.tmp 12) rfl rfl rfl rfl rfl rfl (fun hg1 => ?_) ?_
  rotate_left
  · try replace hg1 := of_decide_eq_false hg1
    refine QOps.st rfl rfl (Yv.move rfl).yl ?_
    refine QOps.st rfl rfl (Yl.call callable55 (.cons rfl (.nil)) (fun w' hw' => l21Pace_spec)) ?_
    refine QOps.st rfl rfl (Yv.not rfl).yl ?_
    exact QOps.nil rfl
  refine QOps.nil ?_
  refine Run.cond rfl (fun hc1 => ?_) (fun hc1 => ?_)
  · try replace hc1 := of_decide_eq_true hc1
    have hn : ¬ (areFixes fs && inB pace 0 500) = true := by revert hc1; cases areFixes fs <;> cases inB pace 0 500 <;> simp
    refine Run.seq ?_
    refine Run.quiet (by intro h; cases h) ?_
    refine QOps.st rfl rfl (Yv.assign rfl).yl ?_
    refine QOps.st rfl rfl (Yv.assign rfl).yl ?_
    refine QOps.nil ?_
    refine Run.ret ?_
    refine retQ.of (.inr rfl) rfl (.tmp rfl (.tmp rfl .nil)) (fun w' hw' => ?_)
    refine ⟨?_, hw'.bel.below⟩
    unfold areConsistentOf; rw [if_neg hn]; rfl
  · try replace hc1 := of_decide_eq_false hc1
    have hy : (areFixes fs && inB pace 0 500) = true := by revert hc1; cases areFixes fs <;> cases inB pace 0 500 <;> simp
    have hok := areFixes_all (fs := fs) (by simp at hy; exact hy.1)
    have hp : 0 ≤ pace ∧ pace ≤ 500 := inB_iff.1 (by simp at hy; exact hy.2)
    refine Run.skip ?_
    refine Run.seq ?_
    refine Run.quiet (by intro h; cases h) ?_
    refine QOps.st rfl rfl (Yv.move rfl).yl ?_
    refine QOps.st rfl rfl (Yv.move rfl).yl ?_
    refine QOps.st rfl rfl (Yl.call callable56 (.cons rfl (.cons rfl (.nil))) (fun w' hw' => l21Consistent_spec (((Rd.arg hs) w' hw')) hok hp.1 hp.2)) ?_
    refine QOps.st rfl rfl (Yv.assign rfl).yl ?_
    refine QOps.st rfl rfl (Yv.assign rfl).yl ?_
    refine QOps.nil ?_
    refine Run.ret ?_
    refine retQ.of (.inr rfl) rfl (.tmp rfl (.tmp rfl .nil)) (fun w' hw' => ?_)
    refine ⟨?_, hw'.bel.below⟩
    unfold areConsistentOf; rw [if_pos hy]; rfl
/-- The slowest pace at which they are consistent. -/
def slowest (fs : List Fix) : Int × Bool := if areFixes fs = true then (match firstTo 501 (fun p => consistent fs (p : Nat)) with | some k => ((k : Int), true) | none => (0, false)) else (0, false)
theorem SlowestPace_spec {w : World} {A : Option Addr} {c : Nat} {fs : List Fix} (hs : Sl w 3 A fs.length c (fs.flatMap Fix.enc)) :
    Calls Try.prog 22 #[.slice A fs.length c] w (RetB w (.tuple #[.int .i64 (slowest fs).1, .bool (slowest fs).2])) := by
  refine calls_of_run (vs := [_]) (L := [(0, _)]) (n := 16) (F := []) (H := []) Try.func22 rfl rfl rfl rfl (HOk.start _) ?_
  refine Run.seq ?_
  refine Run.quiet (by intro h; cases h) ?_
  refine QOps.st rfl rfl (Yv.assign rfl).yl ?_
  refine QOps.st rfl rfl (Yv.assign rfl).yl ?_
  refine QOps.nil ?_
  refine Run.seq ?_
  refine Run.seq ?_
  refine Run.quiet (by intro h; cases h) ?_
  refine QOps.st rfl rfl (Yv.move rfl).yl ?_
  refine QOps.st rfl rfl (Yl.call callable17 (.cons rfl (.nil)) (fun w' hw' => AreFixes_spec ((Rd.arg hs) w' hw'))) ?_
  refine QOps.st rfl rfl (Yv.not rfl).yl ?_
  refine QOps.nil ?_
  refine Run.cond rfl (fun hc1 => ?_) (fun hc1 => ?_)
  · try replace hc1 := of_decide_eq_true hc1
    have hn : ¬ areFixes fs = true := by simpa using hc1
    refine Run.seq ?_
    refine Run.quiet (by intro h; cases h) ?_
    refine QOps.st rfl rfl (Yv.assign rfl).yl ?_
    refine QOps.st rfl rfl (Yv.assign rfl).yl ?_
    refine QOps.nil ?_
    refine Run.ret ?_
    refine retQ.of (.inr rfl) rfl (.tmp rfl (.tmp rfl .nil)) (fun w' hw' => ?_)
    refine ⟨?_, hw'.bel.below⟩
    unfold slowest; rw [if_neg hn]; rfl
  · try replace hc1 := of_decide_eq_false hc1
    have hy : areFixes fs = true := by simpa using hc1
    have hok := areFixes_all hy
    refine Run.skip ?_
    refine Run.seq ?_
    refine Run.seq ?_
    refine Run.quiet (by intro h; cases h) ?_
    refine QOps.st rfl rfl (Yv.assign rfl).yl ?_
    refine QOps.nil ?_
    refine Run.block ?_
    refine Run.loop (S := Nat) (fun s => match s with | k => k ≤ 501 ∧ ∀ i, i < k → consistent fs (i : Nat) = false) (fun s => match s with | k => [(0, .slice A fs.length c), (4, .int .i64 (k : Int))]) (fun s => match s with | k => []) (fun s => match s with | k => 501 - k) 0 ?_ (SubE.cons rfl (SubE.cons rfl (SubE.nil _))) (List.Sublist.refl _) ?_
    · exact ⟨by omega, fun i hi => by omega⟩
    · rintro k ⟨hk, hall⟩
      show Run _ _ _ _ _ [(0, .slice A fs.length c), (4, .int .i64 (k : Int))] [] _
      refine Run.seq ?_
      refine Run.seq ?_
      refine Run.quiet (by intro h; cases h) ?_
      refine QOps.st rfl rfl (Yv.move rfl).yl ?_
      refine QOps.st rfl rfl (Yv.leq rfl rfl).yl ?_
      refine QOps.nil ?_
      refine Run.cond rfl (fun hc2 => ?_) (fun hc2 => ?_)
      · try replace hc2 := of_decide_eq_true hc2
        refine Run.skip ?_
        refine Run.seq ?_
        refine Run.block ?_
        refine Run.seq ?_
        refine Run.quiet (by intro h; cases h) ?_
        refine QOps.st rfl rfl (Yv.move rfl).yl ?_
        refine QOps.st rfl rfl (Yv.move rfl).yl ?_
        refine QOps.st rfl rfl (Yl.call callable58 (.cons rfl (.cons rfl (.nil))) (fun w' hw' => areConsistent_spec (((Rd.arg hs) w' hw')) hok (by omega) (by omega))) ?_
        refine QOps.nil ?_
        refine Run.cond rfl (fun hc3 => ?_) (fun hc3 => ?_)
        · try replace hc3 := of_decide_eq_true hc3
          refine Run.seq ?_
          refine Run.quiet (by intro h; cases h) ?_
          refine QOps.st rfl rfl (Yv.move rfl).yl ?_
          refine QOps.st rfl rfl (Yv.assign rfl).yl ?_
          refine QOps.st rfl rfl (Yv.assign rfl).yl ?_
          refine QOps.nil ?_
          refine Run.ret ?_
          refine retQ.of (.inr rfl) rfl (.tmp rfl (.tmp rfl .nil)) (fun w' hw' => ?_)
          refine ⟨?_, hw'.bel.below⟩
          unfold slowest; rw [if_pos hy, firstTo_some (k := k) (by omega) hc3 hall]; rfl
        · try replace hc3 := of_decide_eq_false hc3
          refine Run.skip ?_
          refine Run.quiet (by intro h; cases h) ?_
          refine QOps.st rfl rfl (Yv.move rfl).yl ?_
          refine QOps.st rfl rfl (Yv.succN rfl rfl (by omega)).yl ?_
          refine QOps.st rfl rfl (Yv.assign rfl).yl ?_
          refine QOps.nil ?_
          refine ⟨k + 1, ?_, ?_, (SubE.cons rfl (SubE.cons rfl (SubE.nil _))), (List.Sublist.refl _)⟩
          · exact ⟨by omega, all_succ hall hc3⟩
          · first | omega | (dsimp only; omega)
      · try replace hc2 := of_decide_eq_false hc2
        refine Run.exit ?_
        refine Run.seq ?_
        refine Run.quiet (by intro h; cases h) ?_
        refine QOps.st rfl rfl (Yv.assign rfl).yl ?_
        refine QOps.st rfl rfl (Yv.assign rfl).yl ?_
        refine QOps.nil ?_
        refine Run.ret ?_
        refine retQ.of (.inr rfl) rfl (.tmp rfl (.tmp rfl .nil)) (fun w' hw' => ?_)
        refine ⟨?_, hw'.bel.below⟩
        unfold slowest; rw [if_pos hy, firstTo_none (fun i hi => hall i (by omega))]; rfl

theorem sSlowestPace_spec {w : World} {A : Option Addr} {c : Nat} {fs : List Fix} (hs : Sl w 3 A fs.length c (fs.flatMap Fix.enc)) :
    Calls Try.prog 21 #[.slice A fs.length c] w (RetB w (.tuple #[.int .i64 (slowest fs).1, .bool (slowest fs).2])) := by
  refine calls_of_run (vs := [_]) (L := [(0, _)]) (n := 16) (F := []) (H := []) Try.func21 rfl rfl rfl rfl (HOk.start _) ?_
  refine Run.seq ?_
  refine Run.quiet (by intro h; cases h) ?_
  refine QOps.st rfl rfl (Yv.assign rfl).yl ?_
  refine QOps.st rfl rfl (Yv.assign rfl).yl ?_
  refine QOps.nil ?_
  refine Run.seq ?_
  refine Run.seq ?_
  refine Run.quiet (by intro h; cases h) ?_
  refine QOps.st rfl rfl (Yv.move rfl).yl ?_
  refine QOps.st rfl rfl (Yl.call callable51 (.cons rfl (.nil)) (fun w' hw' => l21Good_spec ((Rd.arg hs) w' hw'))) ?_
  refine QOps.st rfl rfl (Yv.not rfl).yl ?_
  refine QOps.nil ?_
  refine Run.cond rfl (fun hc1 => ?_) (fun hc1 => ?_)
  · try replace hc1 := of_decide_eq_true hc1
    have hn : ¬ areFixes fs = true := by simpa using hc1
    refine Run.seq ?_
    refine Run.quiet (by intro h; cases h) ?_
    refine QOps.st rfl rfl (Yv.assign rfl).yl ?_
    refine QOps.st rfl rfl (Yv.assign rfl).yl ?_
    refine QOps.nil ?_
    refine Run.ret ?_
    refine retQ.of (.inr rfl) rfl (.tmp rfl (.tmp rfl .nil)) (fun w' hw' => ?_)
    refine ⟨?_, hw'.bel.below⟩
    unfold slowest; rw [if_neg hn]; rfl
  · try replace hc1 := of_decide_eq_false hc1
    have hy : areFixes fs = true := by simpa using hc1
    have hok := areFixes_all hy
    refine Run.skip ?_
    refine Run.seq ?_
    refine Run.seq ?_
    refine Run.quiet (by intro h; cases h) ?_
    refine QOps.st rfl rfl (Yv.assign rfl).yl ?_
    refine QOps.nil ?_
    refine Run.block ?_
    refine Run.loop (S := Nat) (fun s => match s with | k => k ≤ 501 ∧ ∀ i, i < k → consistent fs (i : Nat) = false) (fun s => match s with | k => [(0, .slice A fs.length c), (4, .int .i64 (k : Int))]) (fun s => match s with | k => []) (fun s => match s with | k => 501 - k) 0 ?_ (SubE.cons rfl (SubE.cons rfl (SubE.nil _))) (List.Sublist.refl _) ?_
    · exact ⟨by omega, fun i hi => by omega⟩
    · rintro k ⟨hk, hall⟩
      show Run _ _ _ _ _ [(0, .slice A fs.length c), (4, .int .i64 (k : Int))] [] _
      refine Run.seq ?_
      refine Run.seq ?_
      refine Run.quiet (by intro h; cases h) ?_
      refine QOps.st rfl rfl (Yv.move rfl).yl ?_
      refine QOps.st rfl rfl (Yv.leq rfl rfl).yl ?_
      refine QOps.nil ?_
      refine Run.cond rfl (fun hc2 => ?_) (fun hc2 => ?_)
      · try replace hc2 := of_decide_eq_true hc2
        refine Run.skip ?_
        refine Run.seq ?_
        refine Run.block ?_
        refine Run.seq ?_
        refine Run.quiet (by intro h; cases h) ?_
        refine QOps.st rfl rfl (Yv.move rfl).yl ?_
        refine QOps.st rfl rfl (Yv.move rfl).yl ?_
        refine QOps.st rfl rfl (Yl.call callable56 (.cons rfl (.cons rfl (.nil))) (fun w' hw' => l21Consistent_spec (((Rd.arg hs) w' hw')) hok (by omega) (by omega))) ?_
        refine QOps.nil ?_
        refine Run.cond rfl (fun hc3 => ?_) (fun hc3 => ?_)
        · try replace hc3 := of_decide_eq_true hc3
          refine Run.seq ?_
          refine Run.quiet (by intro h; cases h) ?_
          refine QOps.st rfl rfl (Yv.move rfl).yl ?_
          refine QOps.st rfl rfl (Yv.assign rfl).yl ?_
          refine QOps.st rfl rfl (Yv.assign rfl).yl ?_
          refine QOps.nil ?_
          refine Run.ret ?_
          refine retQ.of (.inr rfl) rfl (.tmp rfl (.tmp rfl .nil)) (fun w' hw' => ?_)
          refine ⟨?_, hw'.bel.below⟩
          unfold slowest; rw [if_pos hy, firstTo_some (k := k) (by omega) hc3 hall]; rfl
        · try replace hc3 := of_decide_eq_false hc3
          refine Run.skip ?_
          refine Run.quiet (by intro h; cases h) ?_
          refine QOps.st rfl rfl (Yv.move rfl).yl ?_
          refine QOps.st rfl rfl (Yv.succN rfl rfl (by omega)).yl ?_
          refine QOps.st rfl rfl (Yv.assign rfl).yl ?_
          refine QOps.nil ?_
          refine ⟨k + 1, ?_, ?_, (SubE.cons rfl (SubE.cons rfl (SubE.nil _))), (List.Sublist.refl _)⟩
          · exact ⟨by omega, all_succ hall hc3⟩
          · first | omega | (dsimp only; omega)
      · try replace hc2 := of_decide_eq_false hc2
        refine Run.exit ?_
        refine Run.seq ?_
        refine Run.quiet (by intro h; cases h) ?_
        refine QOps.st rfl rfl (Yv.assign rfl).yl ?_
        refine QOps.st rfl rfl (Yv.assign rfl).yl ?_
        refine QOps.nil ?_
        refine Run.ret ?_
        refine retQ.of (.inr rfl) rfl (.tmp rfl (.tmp rfl .nil)) (fun w' hw' => ?_)
        refine ⟨?_, hw'.bel.below⟩
        unfold slowest; rw [if_pos hy, firstTo_none (fun i hi => hall i (by omega))]; rfl

theorem FnExactAreConsistent_spec {w : World} {A : Option Addr} {c : Nat} {fs : List Fix} {pace : Int} (hs : Sl w 3 A fs.length c (fs.flatMap Fix.enc)) (hb : 24 * fs.length ≤ 281474976710656) :
    Calls Try.prog 4 #[.slice A fs.length c, .int .i64 pace] w (RetB w (.bool true)) := by
  refine calls_of_run (vs := [_, _]) (L := [(0, _), (1, _)]) (n := 44) (F := []) (H := []) Try.func4 rfl rfl rfl rfl (HOk.start _) ?_
  refine Run.seq ?_
  refine Run.quiet (by intro h; cases h) ?_
  refine QOps.st rfl rfl (Yv.assign rfl).yl ?_
  refine QOps.nil ?_
  refine Run.seq ?_
  refine Run.quiet (by intro h; cases h) ?_
  refine QOps.st rfl rfl (Yv.assign rfl).yl ?_
  refine QOps.nil ?_
  refine Run.seq ?_
  refine Run.quiet (by intro h; cases h) ?_
  refine QOps.st rfl rfl (Yv.move rfl).yl ?_
  refine QOps.st rfl rfl (Yv.move rfl).yl ?_
  refine QOps.st rfl rfl (Yl.call callable14 (.cons rfl (.cons rfl (.nil))) (fun w' hw' => szFixS_spec (by omega) (by omega) (by omega))) ?_
  refine QOps.st rfl rfl (Yv.assign rfl).yl ?_
  refine QOps.nil ?_
  refine Run.seq ?_
  refine Run.seq ?_
  refine Run.quiet (by intro h; cases h) ?_
  refine QOps.st rfl rfl (Yv.move rfl).yl ?_
  refine QOps.st rfl rfl (Yv.lss rfl rfl).yl ?_
  refine QOps.nil ?_
  refine Run.cond rfl (fun hc1 => ?_) (fun hc1 => ?_)
  · try replace hc1 := of_decide_eq_true hc1
    refine Run.seq ?_
    refine Run.quiet (by intro h; cases h) ?_
    refine QOps.st rfl rfl (Yv.assign rfl).yl ?_
    refine QOps.nil ?_
    refine Run.ret ?_
    refine retQ.of (.inr rfl) rfl (.tmp rfl .nil) (fun w' hw' => ?_)
    refine ⟨?_, hw'.bel.below⟩
    exact rfl
  · try replace hc1 := of_decide_eq_false hc1
    refine Run.skip ?_
    refine Run.seq ?_
    refine Run.ops ?_
    refine SOps.st rfl rfl (Yv.move rfl).yl ?_
    refine SOps.one rfl (One.callRow rfl callable16 (.cons rfl (.nil)) (fun w' hw' => toFixS_spec ((Rd.arg hs) w' hw') (by omega)) (fun A1 c1 => ?_))
    refine SOps.st rfl rfl (Yv.move rfl).yl ?_
    refine SOps.st rfl rfl (Yl.call callable19 (.cons rfl (.cons rfl (.nil))) (fun w' hw' => sAreConsistent_spec ((Rd.row (i := 0) rfl) w' hw'))) ?_
    refine SOps.st rfl rfl (Yv.move rfl).yl ?_
    refine SOps.st rfl rfl (Yv.extract rfl rfl).yl ?_
    refine SOps.st rfl rfl (Yv.extract rfl rfl).yl ?_
    refine SOps.st rfl rfl (Yv.assign rfl).yl ?_
    refine SOps.st rfl rfl (Yv.assign rfl).yl ?_
    refine SOps.nil ?_
    refine Run.seq ?_
    refine Run.ops ?_
    refine SOps.st rfl rfl (Yv.move rfl).yl ?_
    refine SOps.one rfl (One.callRow rfl callable16 (.cons rfl (.nil)) (fun w' hw' => toFixS_spec ((Rd.arg hs) w' hw') (by omega)) (fun A2 c2 => ?_))
    refine SOps.st rfl rfl (Yv.assign rfl).yl ?_
    refine SOps.nil ?_
    refine Run.seq ?_
    refine Run.quiet (by intro h; cases h) ?_
    refine QOps.st rfl rfl (Yv.move rfl).yl ?_
    refine QOps.st rfl rfl (Yv.move rfl).yl ?_
    refine QOps.st rfl rfl (Yl.call callable20 (.cons rfl (.cons rfl (.nil))) (fun w' hw' => AreConsistent_spec ((Rd.row (i := 0) rfl) w' hw'))) ?_
    refine QOps.st rfl rfl (Yv.move rfl).yl ?_
    refine QOps.st rfl rfl (Yv.extract rfl rfl).yl ?_
    refine QOps.st rfl rfl (Yv.extract rfl rfl).yl ?_
    refine QOps.st rfl rfl (Yv.assign rfl).yl ?_
    refine QOps.st rfl rfl (Yv.assign rfl).yl ?_
    refine QOps.nil ?_
    refine Run.seq ?_
    refine Run.seq ?_
    refine Run.quiet (by intro h; cases h) ?_
    refine QOps.st rfl rfl (Yv.move rfl).yl ?_
    refine QOps.st rfl rfl (Yv.move rfl).yl ?_
    refine QOps.st rfl rfl (Yv.neB bool4 rfl rfl).yl ?_
    refine QOps.st rfl rfl (Yv.move rfl).yl ?_
    refine' QOps.or [_, _, _] _ (.tmp 37) rfl rfl rfl rfl rfl rfl (fun hg1 => ?_) ?_
    rotate_left
    · try replace hg1 := of_decide_eq_false hg1
      refine QOps.st rfl rfl (Yv.move rfl).yl ?_
      refine QOps.st rfl rfl (Yv.move rfl).yl ?_
      refine QOps.st rfl rfl (Yv.neB bool4 rfl rfl).yl ?_
      exact QOps.nil rfl
    refine QOps.nil ?_
    refine Run.cond rfl (fun hc2 => ?_) (fun hc2 => ?_)
    · exfalso
      simp at hc2
    · try replace hc2 := of_decide_eq_false hc2
      refine Run.skip ?_
      refine Run.seq ?_
      refine Run.seq ?_
      refine Run.ops ?_
      refine SOps.st rfl rfl (Yv.move rfl).yl ?_
      refine SOps.st rfl rfl (Yv.move rfl).yl ?_
      refine SOps.one rfl (One.callRow rfl callable16 (.cons rfl (.nil)) (fun w' hw' => toFixS_spec ((Rd.arg hs) w' hw') (by omega)) (fun A3 c3 => ?_))
      refine SOps.st rfl rfl (Yl.call callable18 (.cons rfl (.cons rfl (.nil))) (fun w' hw' => eqFixS_spec ((Rd.row (i := 1) rfl) w' hw') ((Rd.row (i := 0) rfl) w' hw'))) ?_
      refine SOps.st rfl rfl (Yv.not rfl).yl ?_
      refine SOps.nil ?_
      refine Run.cond rfl (fun hc3 => ?_) (fun hc3 => ?_)
      · exfalso
        simp at hc3
      · try replace hc3 := of_decide_eq_false hc3
        refine Run.skip ?_
        refine Run.seq ?_
        refine Run.quiet (by intro h; cases h) ?_
        refine QOps.st rfl rfl (Yv.assign rfl).yl ?_
        refine QOps.nil ?_
        refine Run.ret ?_
        refine retQ.of (.inr rfl) rfl (.tmp rfl .nil) (fun w' hw' => ?_)
        refine ⟨?_, hw'.bel.below⟩
        exact rfl
theorem FnExactSlowestPace_spec {w : World} {A : Option Addr} {c : Nat} {fs : List Fix} (hs : Sl w 3 A fs.length c (fs.flatMap Fix.enc)) (hb : 24 * fs.length ≤ 281474976710656) :
    Calls Try.prog 5 #[.slice A fs.length c] w (RetB w (.bool true)) := by
  refine calls_of_run (vs := [_]) (L := [(0, _)]) (n := 40) (F := []) (H := []) Try.func5 rfl rfl rfl rfl (HOk.start _) ?_
  refine Run.seq ?_
  refine Run.quiet (by intro h; cases h) ?_
  refine QOps.st rfl rfl (Yv.assign rfl).yl ?_
  refine QOps.nil ?_
  refine Run.seq ?_
  refine Run.quiet (by intro h; cases h) ?_
  refine QOps.st rfl rfl (Yv.assign rfl).yl ?_
  refine QOps.nil ?_
  refine Run.seq ?_
  refine Run.quiet (by intro h; cases h) ?_
  refine QOps.st rfl rfl (Yv.move rfl).yl ?_
  refine QOps.st rfl rfl (Yv.move rfl).yl ?_
  refine QOps.st rfl rfl (Yl.call callable14 (.cons rfl (.cons rfl (.nil))) (fun w' hw' => szFixS_spec (by omega) (by omega) (by omega))) ?_
  refine QOps.st rfl rfl (Yv.assign rfl).yl ?_
  refine QOps.nil ?_
  refine Run.seq ?_
  refine Run.seq ?_
  refine Run.quiet (by intro h; cases h) ?_
  refine QOps.st rfl rfl (Yv.move rfl).yl ?_
  refine QOps.st rfl rfl (Yv.lss rfl rfl).yl ?_
  refine QOps.nil ?_
  refine Run.cond rfl (fun hc1 => ?_) (fun hc1 => ?_)
  · try replace hc1 := of_decide_eq_true hc1
    refine Run.seq ?_
    refine Run.quiet (by intro h; cases h) ?_
    refine QOps.st rfl rfl (Yv.assign rfl).yl ?_
    refine QOps.nil ?_
    refine Run.ret ?_
    refine retQ.of (.inr rfl) rfl (.tmp rfl .nil) (fun w' hw' => ?_)
    refine ⟨?_, hw'.bel.below⟩
    exact rfl
  · try replace hc1 := of_decide_eq_false hc1
    refine Run.skip ?_
    refine Run.seq ?_
    refine Run.ops ?_
    refine SOps.st rfl rfl (Yv.move rfl).yl ?_
    refine SOps.one rfl (One.callRow rfl callable16 (.cons rfl (.nil)) (fun w' hw' => toFixS_spec ((Rd.arg hs) w' hw') (by omega)) (fun A1 c1 => ?_))
    refine SOps.st rfl rfl (Yl.call callable21 (.cons rfl (.nil)) (fun w' hw' => sSlowestPace_spec ((Rd.row (i := 0) rfl) w' hw'))) ?_
    refine SOps.st rfl rfl (Yv.move rfl).yl ?_
    refine SOps.st rfl rfl (Yv.extract rfl rfl).yl ?_
    refine SOps.st rfl rfl (Yv.extract rfl rfl).yl ?_
    refine SOps.st rfl rfl (Yv.assign rfl).yl ?_
    refine SOps.st rfl rfl (Yv.assign rfl).yl ?_
    refine SOps.nil ?_
    refine Run.seq ?_
    refine Run.ops ?_
    refine SOps.st rfl rfl (Yv.move rfl).yl ?_
    refine SOps.one rfl (One.callRow rfl callable16 (.cons rfl (.nil)) (fun w' hw' => toFixS_spec ((Rd.arg hs) w' hw') (by omega)) (fun A2 c2 => ?_))
    refine SOps.st rfl rfl (Yv.assign rfl).yl ?_
    refine SOps.nil ?_
    refine Run.seq ?_
    refine Run.quiet (by intro h; cases h) ?_
    refine QOps.st rfl rfl (Yv.move rfl).yl ?_
    refine QOps.st rfl rfl (Yl.call callable22 (.cons rfl (.nil)) (fun w' hw' => SlowestPace_spec ((Rd.row (i := 0) rfl) w' hw'))) ?_
    refine QOps.st rfl rfl (Yv.move rfl).yl ?_
    refine QOps.st rfl rfl (Yv.extract rfl rfl).yl ?_
    refine QOps.st rfl rfl (Yv.extract rfl rfl).yl ?_
    refine QOps.st rfl rfl (Yv.assign rfl).yl ?_
    refine QOps.st rfl rfl (Yv.assign rfl).yl ?_
    refine QOps.nil ?_
    refine Run.seq ?_
    refine Run.seq ?_
    refine Run.quiet (by intro h; cases h) ?_
    refine QOps.st rfl rfl (Yv.move rfl).yl ?_
    refine QOps.st rfl rfl (Yv.move rfl).yl ?_
    refine QOps.st rfl rfl (Yv.neI rfl rfl).yl ?_
    refine QOps.st rfl rfl (Yv.move rfl).yl ?_
    refine' QOps.or [_, _, _] _ (.tmp 33) rfl rfl rfl rfl rfl rfl (fun hg1 => ?_) ?_
    rotate_left
    · try replace hg1 := of_decide_eq_false hg1
      refine QOps.st rfl rfl (Yv.move rfl).yl ?_
      refine QOps.st rfl rfl (Yv.move rfl).yl ?_
      refine QOps.st rfl rfl (Yv.neB bool4 rfl rfl).yl ?_
      exact QOps.nil rfl
    refine QOps.nil ?_
    refine Run.cond rfl (fun hc2 => ?_) (fun hc2 => ?_)
    · exfalso
      simp at hc2
    · try replace hc2 := of_decide_eq_false hc2
      refine Run.skip ?_
      refine Run.seq ?_
      refine Run.seq ?_
      refine Run.ops ?_
      refine SOps.st rfl rfl (Yv.move rfl).yl ?_
      refine SOps.st rfl rfl (Yv.move rfl).yl ?_
      refine SOps.one rfl (One.callRow rfl callable16 (.cons rfl (.nil)) (fun w' hw' => toFixS_spec ((Rd.arg hs) w' hw') (by omega)) (fun A3 c3 => ?_))
      refine SOps.st rfl rfl (Yl.call callable18 (.cons rfl (.cons rfl (.nil))) (fun w' hw' => eqFixS_spec ((Rd.row (i := 1) rfl) w' hw') ((Rd.row (i := 0) rfl) w' hw'))) ?_
      refine SOps.st rfl rfl (Yv.not rfl).yl ?_
      refine SOps.nil ?_
      refine Run.cond rfl (fun hc3 => ?_) (fun hc3 => ?_)
      · exfalso
        simp at hc3
      · try replace hc3 := of_decide_eq_false hc3
        refine Run.skip ?_
        refine Run.seq ?_
        refine Run.quiet (by intro h; cases h) ?_
        refine QOps.st rfl rfl (Yv.assign rfl).yl ?_
        refine QOps.nil ?_
        refine Run.ret ?_
        refine retQ.of (.inr rfl) rfl (.tmp rfl .nil) (fun w' hw' => ?_)
        refine ⟨?_, hw'.bel.below⟩
        exact rfl
end Go.Proofs.Ytliealfihglkmaa
