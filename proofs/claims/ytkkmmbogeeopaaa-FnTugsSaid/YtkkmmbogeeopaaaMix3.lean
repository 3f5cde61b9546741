/- Tugs, in plain Lean: what an assignment does; the nearest tug; the strong ones. Conditions: none. -/
import Derived.Test.YtkkmmbogeeopaaaMix2
import Derived.Test.YtkkmmbogeeopaaaMp
namespace Go.Proofs.Ytkkmmbogeeopaaa
open Go.RowKit
set_option maxRecDepth 100000
/-- A number's cell. -/
def intC (n : Int) : List Value := [.int .i64 n]
theorem intC_len (n : Int) : (intC n).length = 1 := rfl

structure Tug where
  id : Int
  place : Int
  power : Int
instance : Inhabited Tug := ⟨⟨0, 0, 0⟩⟩
def Tug.enc (f : Tug) : List Value := [.int .i64 f.id, .int .i64 f.place, .int .i64 f.power]
theorem Tug.len (f : Tug) : f.enc.length = 3 := rfl
theorem Tug.one (f : Tug) : f.enc.all Value.oneCell' = true := rfl

structure Job where
  id : Int
  src : Int
  dst : Int
  power : Int
  ready : Int
instance : Inhabited Job := ⟨⟨0, 0, 0, 0, 0⟩⟩
def Job.enc (f : Job) : List Value := [.int .i64 f.id, .int .i64 f.src, .int .i64 f.dst, .int .i64 f.power, .int .i64 f.ready]
theorem Job.len (f : Job) : f.enc.length = 5 := rfl
theorem Job.one (f : Job) : f.enc.all Value.oneCell' = true := rfl

def absI (n : Int) : Int := if n < 0 then -n else n
/-- The distance of two places. -/
def nearAbs (a b : Int) : Int := absI (a - b)
theorem nearAbs_nonneg {a b : Int} : 0 ≤ nearAbs a b := by unfold nearAbs absI; split <;> omega
theorem nearAbs_in {a b m : Int} (ha : 0 ≤ a ∧ a ≤ m) (hb : 0 ≤ b ∧ b ≤ m) : nearAbs a b ≤ m := by unfold nearAbs absI; split <;> omega
def tugIn (t : Tug) : Bool := inB t.id 1 99 && inB t.place 0 600 && inB t.power 1 9
def tugBad (ts : List Tug) (k : Nat) : Bool := !tugIn (nth ts k) || (decide ((0 : Int) < (k : Int)) && decide ((nth ts k).id ≤ (nth ts (k - 1)).id))
def tugsOk (ts : List Tug) : Bool := allTo ts.length (fun k => !tugBad ts k) && decide ((ts.length : Int) ≤ 4)
def jobOk (j : Job) : Bool := inB j.id 1 99 && inB j.src 0 600 && inB j.dst 0 600 && inB j.power 1 9 && inB j.ready 0 500
def jobBad (js : List Job) (k : Nat) : Bool := !jobOk (nth js k) || (decide ((0 : Int) < (k : Int)) && decide ((nth js k).id ≤ (nth js (k - 1)).id))
def jobsOk (js : List Job) : Bool := allTo js.length (fun k => !jobBad js k) && decide ((js.length : Int) ≤ 5)
theorem tugs_bad {ts : List Tug} {k : Nat} (hk : k < ts.length) (h : tugBad ts k = true) : tugsOk ts = false := by unfold tugsOk; rw [allTo_false hk (by rw [h]; rfl)]; rfl
theorem tugs_good {ts : List Tug} (h : ∀ i, i < ts.length → tugBad ts i = false) : tugsOk ts = decide ((ts.length : Int) ≤ 4) := by unfold tugsOk; rw [allTo_iff.2 (fun i hi => by rw [h i hi]; rfl)]; rfl
theorem jobs_bad {js : List Job} {k : Nat} (hk : k < js.length) (h : jobBad js k = true) : jobsOk js = false := by unfold jobsOk; rw [allTo_false hk (by rw [h]; rfl)]; rfl
theorem jobs_good {js : List Job} (h : ∀ i, i < js.length → jobBad js i = false) : jobsOk js = decide ((js.length : Int) ≤ 5) := by unfold jobsOk; rw [allTo_iff.2 (fun i hi => by rw [h i hi]; rfl)]; rfl
/-- What is known of valid tugs. -/
structure TugsIs (ts : List Tug) : Prop where
  len : ts.length ≤ 4
  each : ∀ k, k < ts.length → (1 ≤ (nth ts k).id ∧ (nth ts k).id ≤ 99) ∧ (0 ≤ (nth ts k).place ∧ (nth ts k).place ≤ 600) ∧ (1 ≤ (nth ts k).power ∧ (nth ts k).power ≤ 9)
  up : ∀ i k, i < k → k < ts.length → (nth ts i).id < (nth ts k).id
theorem tugs_is {ts : List Tug} (h : tugsOk ts = true) : TugsIs ts := by
  simp only [tugsOk, Bool.and_eq_true, allTo_iff, decide_eq_true_eq] at h
  obtain ⟨h1, h2⟩ := h
  have h3 : ∀ k, k < ts.length → tugIn (nth ts k) = true ∧ (0 < k → (nth ts (k - 1)).id < (nth ts k).id) := fun k hk => by
    have h4 := h1 k hk
    simp only [tugBad, Bool.not_eq_true', Bool.or_eq_false_iff, Bool.and_eq_false_iff, Bool.not_eq_false', decide_eq_false_iff_not] at h4
    exact ⟨h4.1, fun h0 => by omega⟩
  refine ⟨by omega, fun k hk => ?_, fun i k hik hk => ?_⟩
  · have h4 := (h3 k hk).1
    simp only [tugIn, Bool.and_eq_true, inB_iff] at h4
    exact ⟨h4.1.1, h4.1.2, h4.2⟩
  · induction k with
    | zero => omega
    | succ k ih =>
      have h5 := (h3 (k + 1) hk).2 (by omega)
      rw [show k + 1 - 1 = k by omega] at h5
      rcases Nat.lt_or_ge i k with h6 | h6
      · have := ih h6 (by omega)
        omega
      · obtain rfl : i = k := by omega
        exact h5
theorem TugsIs.inj {ts : List Tug} (h : TugsIs ts) {i k : Nat} (hi : i < ts.length) (hk : k < ts.length) (he : (nth ts i).id = (nth ts k).id) : i = k := by
  rcases Nat.lt_or_ge i k with h1 | h1
  · have := h.up i k h1 hk
    omega
  · rcases Nat.lt_or_ge k i with h2 | h2
    · have := h.up k i h2 hi
      omega
    · omega
structure JobsIs (js : List Job) : Prop where
  len : js.length ≤ 5
  each : ∀ k, k < js.length → (0 ≤ (nth js k).src ∧ (nth js k).src ≤ 600) ∧ (0 ≤ (nth js k).dst ∧ (nth js k).dst ≤ 600) ∧ (1 ≤ (nth js k).power ∧ (nth js k).power ≤ 9) ∧ (0 ≤ (nth js k).ready ∧ (nth js k).ready ≤ 500)
theorem jobs_is {js : List Job} (h : jobsOk js = true) : JobsIs js := by
  simp only [jobsOk, Bool.and_eq_true, allTo_iff, decide_eq_true_eq] at h
  obtain ⟨h1, h2⟩ := h
  refine ⟨by omega, fun k hk => ?_⟩
  have h4 := h1 k hk
  simp only [jobBad, Bool.not_eq_true', Bool.or_eq_false_iff, Bool.not_eq_false'] at h4
  have h5 := h4.1
  simp only [jobOk, Bool.and_eq_true, inB_iff] at h5
  exact ⟨h5.1.1.1.2, h5.1.1.2, h5.1.2, h5.2⟩
/-! Finding a tug -/
def findTug (ts : List Tug) (id : Int) : Option Nat := firstTo ts.length (fun k => decide ((nth ts k).id = id))
def findI (ts : List Tug) (id : Int) : Int := match findTug ts id with | some k => (k : Int) | none => -1
theorem findTug_some {ts : List Tug} {id : Int} {k : Nat} (h : findTug ts id = some k) : k < ts.length ∧ (nth ts k).id = id := by
  unfold findTug firstTo at h
  have h1 := List.mem_of_find?_eq_some h
  have h2 := List.find?_some h
  rw [List.mem_range] at h1
  exact ⟨h1, of_decide_eq_true h2⟩
theorem findTug_at {ts : List Tug} (hT : TugsIs ts) {k : Nat} (hk : k < ts.length) : findTug ts (nth ts k).id = some k := by
  unfold findTug
  refine firstTo_some hk (by simp) (fun i hi => ?_)
  have := hT.up i k hi hk
  exact decide_eq_false (by omega)
theorem findI_nonneg {ts : List Tug} {id : Int} (h : 0 ≤ findI ts id) : ∃ k : Nat, findTug ts id = some k ∧ findI ts id = (k : Int) ∧ k < ts.length ∧ (nth ts k).id = id := by
  unfold findI at h ⊢
  cases hf : findTug ts id with
  | none => rw [hf] at h; simp at h
  | some k => exact ⟨k, rfl, rfl, (findTug_some hf).1, (findTug_some hf).2⟩
/-! Assignments -/
/-- Some tug takes a job. -/
def takes (ts : List Tug) (j : Job) (id : Int) : Bool := match findTug ts id with | some k => decide (j.power ≤ (nth ts k).power) | none => false
def whoPre (ts : List Tug) (js : List Job) (who : List Int) : Bool := tugsOk ts && jobsOk js && decide ((who.length : Int) ≤ (js.length : Int)) && allTo who.length (fun i => takes ts (nth js i) (nth who i))
def planOk (ts : List Tug) (js : List Job) (who : List Int) : Bool := tugsOk ts && jobsOk js && decide ((who.length : Int) = (js.length : Int)) && allTo who.length (fun i => takes ts (nth js i) (nth who i))
theorem plan_pre {ts : List Tug} {js : List Job} {who : List Int} : planOk ts js who = (whoPre ts js who && decide ((who.length : Int) = (js.length : Int))) := by
  unfold planOk whoPre
  by_cases h : (who.length : Int) = (js.length : Int)
  · rw [decide_eq_true h, decide_eq_true (show (who.length : Int) ≤ js.length by omega)]
    simp
  · rw [decide_eq_false h]
    simp
/-- What tugs have done with the first jobs. -/
structure Day where
  ends : List Int
  starts : List Int
  waits : Int
  towed : Int → Int
  others : Int → Int
  pl : Int → Int
  tk : Int → Int
def placesTo (ts : List Tug) : Nat → Int → Int
  | 0 => fun _ => 0
  | k + 1 => updI (placesTo ts k) (nth ts k).id (nth ts k).place
section
variable (ts : List Tug) (js : List Job) (who : List Int)
def wayAt (d : Day) (i : Nat) : Int := nearAbs (d.pl (nth who i)) (nth js i).src
def towAt (i : Nat) : Int := nearAbs (nth js i).src (nth js i).dst
def beginAt (d : Day) (i : Nat) : Int := max (d.tk (nth who i) + wayAt js who d i) (nth js i).ready
def stepD (d : Day) (i : Nat) : Day := ⟨d.ends ++ [beginAt js who d i + towAt js i], d.starts ++ [beginAt js who d i], d.waits + (beginAt js who d i - (nth js i).ready), updI d.towed (nth who i) (d.towed (nth who i) + towAt js i), updI d.others (nth who i) (d.others (nth who i) + wayAt js who d i), updI d.pl (nth who i) (nth js i).dst, updI d.tk (nth who i) (beginAt js who d i + towAt js i)⟩
def dayTo : Nat → Day
  | 0 => ⟨[], [], 0, fun _ => 0, fun _ => 0, placesTo ts ts.length, fun _ => 0⟩
  | i + 1 => stepD js who (dayTo i) i
end
theorem updI_all {f : Int → Int} {k v : Int} {p : Int → Prop} (h : ∀ i, p (f i)) (hv : p v) : ∀ i, p (updI f k v i) := fun i => by
  unfold updI
  split
  · exact hv
  · exact h i
section
variable {ts : List Tug} {js : List Job} {who : List Int}
theorem placesTo_in (hT : TugsIs ts) : ∀ {k : Nat}, k ≤ ts.length → ∀ i, 0 ≤ placesTo ts k i ∧ placesTo ts k i ≤ 600
  | 0, _, i => by simp [placesTo]
  | k + 1, h, i => by
    rw [placesTo]
    exact updI_all (p := fun x => 0 ≤ x ∧ x ≤ 600) (placesTo_in hT (by omega)) (hT.each k (by omega)).2.1 i
theorem placesTo_at (hT : TugsIs ts) : ∀ {n k : Nat}, n ≤ ts.length → k < n → placesTo ts n (nth ts k).id = (nth ts k).place
  | n + 1, k, h, hk => by
    rw [placesTo]
    rcases Nat.lt_or_ge k n with h1 | h1
    · have := hT.up k n h1 (by omega)
      rw [updI_ne (by omega), placesTo_at hT (by omega) h1]
    · obtain rfl : k = n := by omega
      rw [updI_at]
/-- The numbers of a day are small. -/
structure DayIn (i : Nat) (d : Day) : Prop where
  pl : ∀ x, 0 ≤ d.pl x ∧ d.pl x ≤ 600
  tk : ∀ x, 0 ≤ d.tk x ∧ d.tk x ≤ 2000 * (i : Int)
  towed : ∀ x, 0 ≤ d.towed x ∧ d.towed x ≤ 600 * (i : Int)
  others : ∀ x, 0 ≤ d.others x ∧ d.others x ≤ 600 * (i : Int)
  waits : 0 ≤ d.waits ∧ d.waits ≤ 20000 * (i : Int)
  ends : d.ends.length = i
  starts : d.starts.length = i
theorem begin_in {d : Day} {i : Nat} (hJ : JobsIs js) (hi : i < js.length) (h : DayIn i d) : (nth js i).ready ≤ beginAt js who d i ∧ beginAt js who d i ≤ 2000 * (i : Int) + 1100 ∧ 0 ≤ wayAt js who d i ∧ wayAt js who d i ≤ 600 ∧ 0 ≤ towAt js i ∧ towAt js i ≤ 600 := by
  have h1 := (hJ.each i hi)
  have h2 := h.tk (nth who i)
  have h3 : 0 ≤ wayAt js who d i := nearAbs_nonneg
  have h4 : wayAt js who d i ≤ 600 := nearAbs_in (h.pl _) h1.1
  have h5 : 0 ≤ towAt js i := nearAbs_nonneg
  have h6 : towAt js i ≤ 600 := nearAbs_in h1.1 h1.2.1
  unfold beginAt
  omega
theorem step_in {d : Day} {i : Nat} (hJ : JobsIs js) (hi : i < js.length) (h : DayIn i d) : DayIn (i + 1) (stepD js who d i) := by
  obtain ⟨b1, b2, b3, b4, b5, b6⟩ := begin_in (who := who) hJ hi h
  have h1 := hJ.each i hi
  have h2 := h.towed (nth who i)
  have h3 := h.others (nth who i)
  have h4 := h.waits
  refine ⟨updI_all (p := fun x => 0 ≤ x ∧ x ≤ 600) h.pl h1.2.1, updI_all (p := fun x => 0 ≤ x ∧ x ≤ 2000 * ((i + 1 : Nat) : Int)) (fun x => by have := h.tk x; omega) (by omega), updI_all (p := fun x => 0 ≤ x ∧ x ≤ 600 * ((i + 1 : Nat) : Int)) (fun x => by have := h.towed x; omega) (by omega), updI_all (p := fun x => 0 ≤ x ∧ x ≤ 600 * ((i + 1 : Nat) : Int)) (fun x => by have := h.others x; omega) (by omega), ?_, by simp [stepD, h.ends], by simp [stepD, h.starts]⟩
  show 0 ≤ d.waits + (beginAt js who d i - (nth js i).ready) ∧ d.waits + (beginAt js who d i - (nth js i).ready) ≤ 20000 * ((i + 1 : Nat) : Int)
  have h5 := hJ.len
  omega
theorem day_in (hT : TugsIs ts) (hJ : JobsIs js) : ∀ {i : Nat}, i ≤ js.length → DayIn i (dayTo ts js who i)
  | 0, _ => ⟨placesTo_in hT (Nat.le_refl _), by simp [dayTo], by simp [dayTo], by simp [dayTo], by simp [dayTo], rfl, rfl⟩
  | i + 1, h => step_in hJ (by omega) (day_in hT hJ (by omega))
/-! The nearest tug -/
def closer (ts : List Tug) (j : Job) (k : Nat) : Option Nat → Bool
  | none => true
  | some b => decide (nearAbs (nth ts k).place j.src < nearAbs (nth ts b).place j.src)
def nearTo (ts : List Tug) (j : Job) : Nat → Option Nat
  | 0 => none
  | k + 1 => if (decide (j.power ≤ (nth ts k).power) && closer ts j k (nearTo ts j k)) = true then some k else nearTo ts j k
theorem nearTo_some {j : Job} : ∀ {n b : Nat}, nearTo ts j n = some b → b < n ∧ j.power ≤ (nth ts b).power
  | k + 1, b, h => by
    rw [nearTo] at h
    split at h
    · rename_i hc
      simp only [Bool.and_eq_true, decide_eq_true_eq] at hc
      simp only [Option.some.injEq] at h
      subst h
      exact ⟨by omega, hc.1⟩
    · have := nearTo_some h
      exact ⟨by omega, this.2⟩
def nearOf (ts : List Tug) (j : Job) : Int × Bool := if (tugsOk ts && jobOk j) = true then (match nearTo ts j ts.length with | none => (0, false) | some b => ((nth ts b).id, true)) else (0, false)
/-! The strong tugs -/
def strongTo (ts : List Tug) (p : Int) : Nat → List Int
  | 0 => []
  | k + 1 => if p ≤ (nth ts k).power then strongTo ts p k ++ [(nth ts k).id] else strongTo ts p k
theorem strongTo_len {p : Int} : ∀ {n : Nat}, (strongTo ts p n).length ≤ n
  | 0 => by simp [strongTo]
  | k + 1 => by
    have := strongTo_len (p := p) (n := k)
    rw [strongTo]
    split
    · simp; omega
    · omega
theorem strongTo_mem {p : Int} {b : Nat} (hp : p ≤ (nth ts b).power) : ∀ {n : Nat}, b < n → (nth ts b).id ∈ strongTo ts p n
  | k + 1, h => by
    rw [strongTo]
    rcases Nat.lt_or_ge b k with h1 | h1
    · have := strongTo_mem hp h1
      split
      · exact List.mem_append_left _ this
      · exact this
    · obtain rfl : b = k := by omega
      rw [if_pos hp]
      exact List.mem_append_right _ (by simp)
def strongOf (ts : List Tug) (p : Int) : List Int × Bool := if (tugsOk ts && inB p 1 9) = true then (strongTo ts p ts.length, true) else ([], false)
/-- The nearest tug is a strong one. -/
theorem near_strong {j : Job} (h : (nearOf ts j).2 = true) : (strongOf ts j.power).2 = true ∧ (nearOf ts j).1 ∈ (strongOf ts j.power).1 := by
  unfold nearOf at h ⊢
  split at h
  · rename_i hc
    have hc2 : (tugsOk ts && inB j.power 1 9) = true := by
      simp only [Bool.and_eq_true, jobOk] at hc ⊢
      exact ⟨hc.1, hc.2.1.2⟩
    unfold strongOf
    rw [if_pos hc2, if_pos hc]
    cases hn : nearTo ts j ts.length with
    | none => rw [hn] at h; cases h
    | some b =>
      obtain ⟨h1, h2⟩ := nearTo_some hn
      exact ⟨rfl, strongTo_mem h2 h1⟩
  · cases h
/-! All tugs together -/
def sumIds (ts : List Tug) (f : Int → Int) : Nat → Int
  | 0 => 0
  | k + 1 => sumIds ts f k + f (nth ts k).id
theorem sumIds_far {f : Int → Int} {id v : Int} : ∀ {n : Nat}, (∀ k, k < n → (nth ts k).id ≠ id) → sumIds ts (updI f id v) n = sumIds ts f n
  | 0, _ => rfl
  | k + 1, h => by rw [sumIds, sumIds, sumIds_far (fun i hi => h i (by omega)), updI_ne (h k (by omega))]
theorem sumIds_upd (hT : TugsIs ts) {f : Int → Int} {v : Int} {k : Nat} : ∀ {n : Nat}, k < n → n ≤ ts.length → sumIds ts (updI f (nth ts k).id v) n = sumIds ts f n + (v - f (nth ts k).id)
  | n + 1, h, hn => by
    rw [sumIds, sumIds]
    rcases Nat.lt_or_ge k n with h1 | h1
    · have := hT.up k n h1 (by omega)
      rw [sumIds_upd hT h1 (by omega), updI_ne (by omega)]
      omega
    · obtain rfl : k = n := by omega
      rw [sumIds_far (fun i hi => by have := hT.up i k hi (by omega); omega), updI_at]
      omega
def towSum (js : List Job) : Nat → Int
  | 0 => 0
  | i + 1 => towSum js i + towAt js i
theorem takes_at {j : Job} {id : Int} (h : takes ts j id = true) : ∃ k, findTug ts id = some k ∧ k < ts.length ∧ (nth ts k).id = id ∧ j.power ≤ (nth ts k).power := by
  unfold takes at h
  cases hf : findTug ts id with
  | none => rw [hf] at h; cases h
  | some k =>
    rw [hf] at h
    exact ⟨k, rfl, (findTug_some hf).1, (findTug_some hf).2, of_decide_eq_true h⟩
theorem towed_sum (hT : TugsIs ts) : ∀ {i : Nat}, (∀ m, m < i → takes ts (nth js m) (nth who m) = true) → sumIds ts (dayTo ts js who i).towed ts.length = towSum js i
  | 0, _ => by
    have : ∀ n, sumIds ts (fun _ => 0) n = 0 := fun n => by
      induction n with
      | zero => rfl
      | succ n ih => rw [sumIds, ih]; rfl
    exact this _
  | i + 1, h => by
    obtain ⟨k, h1, h2, h3, _⟩ := takes_at (h i (by omega))
    have ih := towed_sum hT (i := i) (fun m hm => h m (by omega))
    rw [towSum, ← ih, dayTo]
    show sumIds ts (updI (dayTo ts js who i).towed (nth who i) ((dayTo ts js who i).towed (nth who i) + towAt js i)) ts.length = _
    rw [← h3, sumIds_upd hT h2 (Nat.le_refl _)]
    omega
/-- What is known of a valid assignment. -/
structure PlanIs (ts : List Tug) (js : List Job) (who : List Int) : Prop where
  tugs : TugsIs ts
  jobs : JobsIs js
  len : who.length = js.length
  each : ∀ i, i < who.length → takes ts (nth js i) (nth who i) = true
theorem plan_is (h : planOk ts js who = true) : PlanIs ts js who := by
  simp only [planOk, Bool.and_eq_true, decide_eq_true_eq, allTo_iff] at h
  exact ⟨tugs_is h.1.1.1, jobs_is h.1.1.2, by omega, h.2⟩
end
end Go.Proofs.Ytkkmmbogeeopaaa
