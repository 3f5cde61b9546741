/- Fixes: whether two vessels may meet. Conditions: none. -/
import Derived.Test.YtliealfihglkmaaPos5
namespace Go.Proofs.Ytliealfihglkmaa
open Go.RowKit
set_option maxRecDepth 100000
/-- A slice as a cell. -/
structure SlV where
  A : Option Addr
  n : Nat
  c : Nat
instance : Inhabited SlV := ⟨⟨none, 0, 0⟩⟩
def SlV.enc (x : SlV) : List Value := [.slice x.A x.n x.c]
theorem SlV.len (x : SlV) : x.enc.length = 1 := rfl
/-- The first of some lists, one after the other. -/
def catTo (ls : List (List Fix)) : Nat → List Fix
  | 0 => []
  | k + 1 => catTo ls k ++ nth ls k
theorem catTo_mono {ls : List (List Fix)} {k : Nat} : ∀ {j : Nat}, k ≤ j → (catTo ls k).length ≤ (catTo ls j).length
  | 0, h => by
    obtain rfl : k = 0 := by omega
    exact Nat.le_refl _
  | j + 1, h => by
    rcases Nat.lt_or_ge k (j + 1) with h1 | h1
    · have := catTo_mono (ls := ls) (k := k) (j := j) (by omega)
      rw [catTo, List.length_append]
      omega
    · obtain rfl : k = j + 1 := by omega
      exact Nat.le_refl _
theorem Grow_spec {w : World} {n : Nat} (h0 : 0 < n) (h1 : n ≤ 1048576) :
    Calls Try.prog 80 #[.slice none 0 0, .int .i64 (n : Int)] w (RetRow w 49 3 0 [] (fun v => v)) := by
  refine calls_of_run (vs := [_, _]) (L := [(0, _), (1, _)]) (n := 27) (F := []) (H := []) Try.func80 rfl rfl rfl rfl (HOk.start _) ?_
  refine Run.seq ?_
  refine Run.quiet (by intro h; cases h) ?_
  refine QOps.st rfl rfl (Yv.assign rfl).yl ?_
  refine QOps.nil ?_
  refine Run.seq ?_
  refine Run.seq ?_
  refine Run.quiet (by intro h; cases h) ?_
  refine QOps.st rfl rfl (Yv.move rfl).yl ?_
  refine QOps.st rfl rfl (Yv.lss rfl rfl).yl ?_
  refine QOps.nil ?_
  refine Run.cond rfl (fun hc1 => ?_) (fun hc1 => ?_)
  · exfalso
    have := of_decide_eq_true hc1; omega
  · try replace hc1 := of_decide_eq_false hc1
    refine Run.skip ?_
    refine Run.seq ?_
    refine Run.seq ?_
    refine Run.quiet (by intro h; cases h) ?_
    refine QOps.st rfl rfl (Yv.move rfl).yl ?_
    refine QOps.st rfl rfl (Yv.move rfl).yl ?_
    refine QOps.st rfl rfl (Yv.capS el25s rfl).yl ?_
    refine QOps.st rfl rfl (Yv.move rfl).yl ?_
    refine QOps.st rfl rfl (Yv.lenS el25s rfl).yl ?_
    refine QOps.st rfl rfl (Yv.sub rfl rfl (by omega)).yl ?_
    refine QOps.st rfl rfl (Yv.sub rfl rfl (by omega)).yl ?_
    refine QOps.st rfl rfl (Yv.assign rfl).yl ?_
    refine QOps.nil ?_
    refine Run.seq ?_
    refine Run.quiet (by intro h; cases h) ?_
    refine QOps.st rfl rfl (Yv.move rfl).yl ?_
    refine QOps.st rfl rfl (Yv.gtr rfl rfl).yl ?_
    refine QOps.nil ?_
    refine Run.cond rfl (fun hc2 => ?_) (fun hc2 => ?_)
    · try replace hc2 := of_decide_eq_true hc2
      refine Run.ops ?_
      refine SOps.st rfl rfl (Yv.move rfl).yl ?_
      refine SOps.st rfl rfl (Yv.move rfl).yl ?_
      refine SOps.st rfl rfl (Yv.capS el25s rfl).yl ?_
      refine SOps.st rfl rfl (Yv.cutTo0 0 el25 rfl rfl rfl (by omega)).yl ?_
      refine SOps.st rfl rfl (Yv.move rfl).yl ?_
      refine SOps.one rfl (One.appendZ (enc := Fix.enc) (k := n) default rfl el25 int3 zero49 rfl Fix.len (by decide) rfl rfl (by omega) (by omega) (by omega) (fun A1 c1 hge1 => ?_))
      refine SOps.st rfl rfl (Yv.move rfl).yl ?_
      refine SOps.st rfl rfl (Yv.lenS el25s rfl).yl ?_
      refine SOps.st rfl rfl (Yv.cutTo0 0 el25 rfl rfl rfl (by omega)).yl ?_
      refine SOps.st rfl rfl (Yv.assign rfl).yl ?_
      refine SOps.nil ?_
      refine Run.seq ?_
      refine Run.quiet (by intro h; cases h) ?_
      refine QOps.st rfl rfl (Yv.move rfl).yl ?_
      refine QOps.st rfl rfl (Yv.assign rfl).yl ?_
      refine QOps.nil ?_
      refine Run.ret ?_
      refine retQ.of (.inr rfl) rfl (.tmp rfl .nil) (fun w' hw' => ?_)
      have h3 := row_less' (m' := 0) Fix.len (hw'.ent _ (List.mem_of_getElem? (i := 0) rfl)) (by omega)
      exact ⟨_, _, rfl, hw'.bel.below, by simpa using h3, fun g hg => (hw'.own _ (List.mem_of_getElem? (i := 0) rfl) g hg).elim id (by simp)⟩
    · exfalso
      have := of_decide_eq_false hc2; omega
theorem Concat_spec {w : World} {A : Option Addr} {c : Nat} {rs : List SlV} {ls : List (List Fix)} (hs : Sl w 1 A rs.length c (rs.flatMap SlV.enc)) (hr : ∀ k, k < rs.length → (nth rs k).n = (nth ls k).length ∧ Sl w 3 (nth rs k).A (nth rs k).n (nth rs k).c ((nth ls k).flatMap Fix.enc))
    (h0 : 0 < (catTo ls rs.length).length) (h1 : (catTo ls rs.length).length ≤ 1048576) :
    Calls Try.prog 70 #[.slice A rs.length c] w (RetRow w 49 3 (catTo ls rs.length).length ((catTo ls rs.length).flatMap Fix.enc) (fun v => v)) := by
  have hmx := Sl.lenle hs
  refine calls_of_run (vs := [_]) (L := [(0, _)]) (n := 36) (F := []) (H := []) Try.func70 rfl rfl rfl rfl (HOk.start _) ?_
  refine Run.seq ?_
  refine Run.quiet (by intro h; cases h) ?_
  refine QOps.st rfl rfl (Yv.assign rfl).yl ?_
  refine QOps.nil ?_
  refine Run.seq ?_
  refine Run.quiet (by intro h; cases h) ?_
  refine QOps.st rfl rfl (Yv.assign rfl).yl ?_
  refine QOps.nil ?_
  refine Run.seq ?_
  refine Run.seq ?_
  refine Run.quiet (by intro h; cases h) ?_
  refine QOps.st rfl rfl (Yv.move rfl).yl ?_
  refine QOps.st rfl rfl (Yv.lenS el94s rfl).yl ?_
  refine QOps.st rfl rfl (Yv.move rfl).yl ?_
  refine QOps.nil ?_
  refine Run.block ?_
  refine Run.loop (S := Nat) (fun s => match s with | k => k ≤ rs.length) (fun s => match s with | k => [(0, .slice A rs.length c), (3, .int .i64 ((catTo ls k).length : Int)), (9, .slice A rs.length c), (10, .int .i64 (rs.length : Int)), (11, .int .i64 (k : Int))]) (fun s => match s with | k => []) (fun s => match s with | k => rs.length - k) 0 ?_ (SubE.cons rfl (SubE.cons rfl (SubE.cons rfl (SubE.cons rfl (SubE.cons rfl (SubE.nil _)))))) (List.Sublist.refl _) ?_
  · exact Nat.zero_le _
  · rintro k hk
    show Run _ _ _ _ _ [(0, .slice A rs.length c), (3, .int .i64 ((catTo ls k).length : Int)), (9, .slice A rs.length c), (10, .int .i64 (rs.length : Int)), (11, .int .i64 (k : Int))] [] _
    refine Run.seq ?_
    refine Run.quiet (by intro h; cases h) ?_
    refine QOps.st rfl rfl (Yv.lss rfl rfl).yl ?_
    refine QOps.nil ?_
    refine Run.seq ?_
    refine Run.cond rfl (fun hc1 => ?_) (fun hc1 => ?_)
    · try replace hc1 := of_decide_eq_true hc1
      refine Run.skip ?_
      refine Run.seq ?_
      refine Run.block ?_
      refine Run.seq ?_
      refine Run.quiet (by intro h; cases h) ?_
      refine QOps.st rfl rfl (Yv.indexAddr k el94 rfl rfl rfl (Rd.arg hs) (by omega)).yl ?_
      refine QOps.st rfl rfl (Yv.loadE lay25 rfl SlV.len (Rd.arg hs) (by first | omega | (simp; omega)) rfl).yl ?_
      refine QOps.st rfl rfl (Yv.assign rfl).yl ?_
      refine QOps.nil ?_
      have hk1 : (catTo ls k).length + (nth rs k).n ≤ 1048576 := by
            have h5 := catTo_mono (ls := ls) (k := k + 1) (j := rs.length) (by omega)
            rw [catTo, List.length_append, ← (hr k (by omega)).1] at h5
            omega
      refine Run.seq ?_
      refine Run.quiet (by intro h; cases h) ?_
      refine QOps.st rfl rfl (Yv.move rfl).yl ?_
      refine QOps.st rfl rfl (Yv.move rfl).yl ?_
      refine QOps.st rfl rfl (Yv.lenS el25s rfl).yl ?_
      refine QOps.st rfl rfl (Yv.addN rfl rfl (by omega)).yl ?_
      refine QOps.st rfl rfl (Yv.assign rfl).yl ?_
      refine QOps.nil ?_
      refine Run.seq ?_
      refine Run.quiet (by intro h; cases h) ?_
      refine QOps.st rfl rfl (Yv.move rfl).yl ?_
      refine QOps.st rfl rfl (Yv.lss rfl rfl).yl ?_
      refine QOps.nil ?_
      refine Run.cond rfl (fun hc2 => ?_) (fun hc2 => ?_)
      · exfalso
        have := of_decide_eq_true hc2; omega
      · try replace hc2 := of_decide_eq_false hc2
        refine Run.skip ?_
        refine Run.quiet (by intro h; cases h) ?_
        refine QOps.st rfl rfl (Yv.succN rfl rfl (by omega)).yl ?_
        refine QOps.st rfl rfl (Yv.move rfl).yl ?_
        refine QOps.nil ?_
        refine ⟨k + 1, ?_, ?_, (SubE.cons rfl (SubE.cons (congrArg some (by rw [catTo, List.length_append, (hr k (by omega)).1])) (SubE.cons rfl (SubE.cons rfl (SubE.cons rfl (SubE.nil _)))))), (List.Sublist.refl _)⟩
        · show k + 1 ≤ _; omega
        · first | omega | (dsimp only; omega)
    · try replace hc1 := of_decide_eq_false hc1
      refine Run.exit ?_
      refine Run.seq ?_
      have hke : k = rs.length := by omega
      have hk0 : 0 < (catTo ls k).length ∧ (catTo ls k).length ≤ 1048576 := by rw [hke]; exact ⟨h0, h1⟩
      refine Run.ops ?_
      refine SOps.st rfl rfl (Yv.move rfl).yl ?_
      refine SOps.one rfl (One.callRow rfl callable80 (.cons rfl (.cons rfl (.nil))) (fun w' hw' => Grow_spec (by omega) (by omega)) (fun A1 c1 => ?_))
      refine SOps.st rfl rfl (Yv.assign rfl).yl ?_
      refine SOps.nil ?_
      refine Run.seq ?_
      refine Run.seq ?_
      refine Run.quiet (by intro h; cases h) ?_
      refine QOps.st rfl rfl (Yv.move rfl).yl ?_
      refine QOps.st rfl rfl (Yv.lenS el94s rfl).yl ?_
      refine QOps.st rfl rfl (Yv.move rfl).yl ?_
      refine QOps.nil ?_
      refine Run.block ?_
      refine Run.loop (S := Nat × Option Addr × Nat) (fun s => match s with | (j, A2, c2) => j ≤ rs.length) (fun s => match s with | (j, A2, c2) => [(6, .slice A2 (catTo ls j).length c2), (25, .slice A rs.length c), (26, .int .i64 (rs.length : Int)), (27, .int .i64 (j : Int))]) (fun s => match s with | (j, A2, c2) => [.row A2 c2 49 3 (catTo ls j).length ((catTo ls j).flatMap Fix.enc)]) (fun s => match s with | (j, A2, c2) => rs.length - j) (0, _, _) ?_ (SubE.cons rfl (SubE.cons rfl (SubE.cons rfl (SubE.cons rfl (SubE.nil _))))) (List.Sublist.refl _) ?_
      · exact Nat.zero_le _
      · rintro ⟨j, A2, c2⟩ hj
        show Run _ _ _ _ _ [(6, .slice A2 (catTo ls j).length c2), (25, .slice A rs.length c), (26, .int .i64 (rs.length : Int)), (27, .int .i64 (j : Int))] [.row A2 c2 49 3 (catTo ls j).length ((catTo ls j).flatMap Fix.enc)] _
        refine Run.seq ?_
        refine Run.quiet (by intro h; cases h) ?_
        refine QOps.st rfl rfl (Yv.lss rfl rfl).yl ?_
        refine QOps.nil ?_
        refine Run.seq ?_
        refine Run.cond rfl (fun hc3 => ?_) (fun hc3 => ?_)
        · try replace hc3 := of_decide_eq_true hc3
          refine Run.skip ?_
          refine Run.seq ?_
          refine Run.block ?_
          refine Run.seq ?_
          refine Run.quiet (by intro h; cases h) ?_
          refine QOps.st rfl rfl (Yv.indexAddr j el94 rfl rfl rfl (Rd.arg hs) (by omega)).yl ?_
          refine QOps.st rfl rfl (Yv.loadE lay25 rfl SlV.len (Rd.arg hs) (by first | omega | (simp; omega)) rfl).yl ?_
          refine QOps.st rfl rfl (Yv.assign rfl).yl ?_
          refine QOps.nil ?_
          have hj1 : (catTo ls j).length + (nth rs j).n ≤ 1048576 := by
                have h5 := catTo_mono (ls := ls) (k := j + 1) (j := rs.length) (by omega)
                rw [catTo, List.length_append, ← (hr j (by omega)).1] at h5
                omega
          have hj2 := (hr j (by omega)).1
          refine Run.ops ?_
          refine SOps.st rfl rfl (Yv.move rfl).yl ?_
          refine SOps.st rfl rfl (Yv.move rfl).yl ?_
          refine SOps.one rfl (One.append (enc := Fix.enc) (l := (catTo ls j)) (l2 := (nth ls j)) (m' := (catTo ls (j + 1)).length) (i := 0) (H' := fun A c => [_]) rfl el25 zero49 rfl (by decide) rfl rfl rfl (Rd.arg (hr j (by omega)).2) (fun _ => rfl) (by rw [catTo, List.length_append, hj2]) (by rw [catTo, List.length_append]; omega) (by rw [catTo, List.length_append]; omega) (fun _ _ => rfl) (fun A2 c2 => ?_))
          refine SOps.st rfl rfl (Yv.assign rfl).yl ?_
          refine SOps.nil ?_
          refine Run.quiet (by intro h; cases h) ?_
          refine QOps.st rfl rfl (Yv.succN rfl rfl (by omega)).yl ?_
          refine QOps.st rfl rfl (Yv.move rfl).yl ?_
          refine QOps.nil ?_
          refine ⟨(j + 1, _, _), ?_, ?_, (SubE.cons rfl (SubE.cons rfl (SubE.cons rfl (SubE.cons rfl (SubE.nil _))))), (List.Sublist.refl _)⟩
          · show j + 1 ≤ _; omega
          · first | omega | (dsimp only; omega)
        · try replace hc3 := of_decide_eq_false hc3
          refine Run.exit ?_
          refine Run.seq ?_
          refine Run.quiet (by intro h; cases h) ?_
          refine QOps.st rfl rfl (Yv.move rfl).yl ?_
          refine QOps.st rfl rfl (Yv.assign rfl).yl ?_
          refine QOps.nil ?_
          refine Run.ret ?_
          obtain rfl : j = rs.length := by omega
          refine retQ.of (.inr rfl) rfl (.tmp rfl .nil) (fun w' hw' => ?_)
          exact ⟨_, _, rfl, hw'.bel.below, hw'.ent _ (List.mem_of_getElem? (i := 0) rfl), fun g hg => (hw'.own _ (List.mem_of_getElem? (i := 0) rfl) g hg).elim id (by simp)⟩
theorem Concat2_spec {w : World} {A A1 A2 : Option Addr} {c1 c2 : Nat} {fs gs : List Fix} (hs : Sl w 1 A 2 2 [.slice A1 fs.length c1, .slice A2 gs.length c2]) (h1 : Sl w 3 A1 fs.length c1 (fs.flatMap Fix.enc)) (h2 : Sl w 3 A2 gs.length c2 (gs.flatMap Fix.enc)) (h0 : 0 < fs.length) (h3 : fs.length + gs.length ≤ 1048576) :
    Calls Try.prog 70 #[.slice A 2 2] w (RetRow w 49 3 (fs ++ gs).length ((fs ++ gs).flatMap Fix.enc) (fun v => v)) := by
  have hl : (catTo [fs, gs] 2) = fs ++ gs := by simp [catTo, nth]
  have h := Concat_spec (w := w) (A := A) (c := 2) (rs := [⟨A1, fs.length, c1⟩, ⟨A2, gs.length, c2⟩]) (ls := [fs, gs]) hs (fun k hk => match k, hk with
    | 0, _ => ⟨rfl, h1⟩
    | 1, _ => ⟨rfl, h2⟩) (by show 0 < (catTo [fs, gs] 2).length; rw [hl]; simp; omega) (by show (catTo [fs, gs] 2).length ≤ 1048576; rw [hl]; simp; omega)
  have h' : Calls Try.prog 70 #[.slice A 2 2] w (RetRow w 49 3 (catTo [fs, gs] 2).length ((catTo [fs, gs] 2).flatMap Fix.enc) (fun v => v)) := h
  rw [hl] at h'
  exact h'
/-! Where both may be -/
theorem nth_l {α : Type} [Inhabited α] {l m : List α} {i : Nat} (h : i < l.length) : nth (l ++ m) i = nth l i := by simp [nth, List.getElem?_append_left h]
theorem nth_r {α : Type} [Inhabited α] {l m : List α} {i : Nat} : nth (l ++ m) (l.length + i) = nth m i := by simp [nth, List.getElem?_append_right]
theorem lowTo_ge {fs : List Fix} {p m : Int} : ∀ {k : Nat}, -100000000 ≤ lowTo fs p m k
  | 0 => Int.le_refl _
  | k + 1 => by
    have := lowTo_ge (fs := fs) (p := p) (m := m) (k := k)
    rw [lowTo]; omega
theorem highTo_le {fs : List Fix} {p m : Int} : ∀ {k : Nat}, highTo fs p m k ≤ 100000000
  | 0 => Int.le_refl _
  | k + 1 => by
    have := highTo_le (fs := fs) (p := p) (m := m) (k := k)
    rw [highTo]; omega
theorem lowTo_l {fs gs : List Fix} {p m : Int} : ∀ {k : Nat}, k ≤ fs.length → lowTo (fs ++ gs) p m k = lowTo fs p m k
  | 0, _ => rfl
  | k + 1, h => by rw [lowTo, lowTo, lowTo_l (by omega), nth_l (by omega)]
theorem highTo_l {fs gs : List Fix} {p m : Int} : ∀ {k : Nat}, k ≤ fs.length → highTo (fs ++ gs) p m k = highTo fs p m k
  | 0, _ => rfl
  | k + 1, h => by rw [highTo, highTo, highTo_l (by omega), nth_l (by omega)]
theorem lowTo_r {fs gs : List Fix} {p m : Int} : ∀ {k : Nat}, lowTo (fs ++ gs) p m (fs.length + k) = max (lowTo fs p m fs.length) (lowTo gs p m k)
  | 0 => by
    have := lowTo_ge (fs := fs) (p := p) (m := m) (k := fs.length)
    rw [Nat.add_zero, lowTo_l (Nat.le_refl _), lowTo.eq_1]; omega
  | k + 1 => by
    rw [← Nat.add_assoc, lowTo, lowTo_r (k := k), nth_r, lowTo.eq_2 gs]; omega
theorem highTo_r {fs gs : List Fix} {p m : Int} : ∀ {k : Nat}, highTo (fs ++ gs) p m (fs.length + k) = min (highTo fs p m fs.length) (highTo gs p m k)
  | 0 => by
    have := highTo_le (fs := fs) (p := p) (m := m) (k := fs.length)
    rw [Nat.add_zero, highTo_l (Nat.le_refl _), highTo.eq_1]; omega
  | k + 1 => by
    rw [← Nat.add_assoc, highTo, highTo_r (k := k), nth_r, highTo.eq_2 gs]; omega
theorem app_ok {fs gs : List Fix} (h : AllOk fs) (h2 : AllOk gs) : AllOk (fs ++ gs) := fun k hk => by
  rw [List.length_append] at hk
  rcases Nat.lt_or_ge k fs.length with h3 | h3
  · rw [nth_l h3]; exact h k h3
  · obtain ⟨j, rfl⟩ : ∃ j, k = fs.length + j := ⟨k - fs.length, by omega⟩
    rw [nth_r]; exact h2 j (by omega)
def meetAsked (fs gs : List Fix) (pace minute : Int) : Bool := areFixes fs && areFixes gs && inB pace 0 500 && inB minute 0 9999
def meetIs (fs gs : List Fix) (pace minute : Int) : Bool := decide (max (lowTo fs pace minute fs.length) (lowTo gs pace minute gs.length) ≤ min (highTo fs pace minute fs.length) (highTo gs pace minute gs.length))
def meetOf (fs gs : List Fix) (pace minute : Int) : Bool × Bool := if meetAsked fs gs pace minute = true then (meetIs fs gs pace minute, true) else (false, false)
theorem meet_app {fs gs : List Fix} {pace minute : Int} : decide (lowTo (fs ++ gs) pace minute (fs ++ gs).length ≤ highTo (fs ++ gs) pace minute (fs ++ gs).length) = meetIs fs gs pace minute := by
  unfold meetIs
  rw [List.length_append, lowTo_r, highTo_r]
theorem MayMeet_spec {w : World} {A A2 : Option Addr} {c c2 : Nat} {fs gs : List Fix} {pace minute : Int} (hs : Sl w 3 A fs.length c (fs.flatMap Fix.enc)) (hs2 : Sl w 3 A2 gs.length c2 (gs.flatMap Fix.enc)) :
    Calls Try.prog 31 #[.slice A fs.length c, .slice A2 gs.length c2, .int .i64 pace, .int .i64 minute] w (RetB w (.tuple #[.bool (meetOf fs gs pace minute).1, .bool (meetOf fs gs pace minute).2])) := by
  refine calls_of_run (vs := [_, _, _, _]) (L := [(0, _), (1, _), (2, _), (3, _)]) (n := 38) (F := []) (H := []) Try.func31 rfl rfl rfl rfl (HOk.start _) ?_
  refine Run.seq ?_
  refine Run.quiet (by intro h; cases h) ?_
  refine QOps.st rfl rfl (Yv.assign rfl).yl ?_
  refine QOps.st rfl rfl (Yv.assign rfl).yl ?_
  refine QOps.nil ?_
  refine Run.seq ?_
  refine Run.seq ?_
  refine Run.quiet (by intro h; cases h) ?_
  refine QOps.st rfl rfl (Yv.move rfl).yl ?_
  refine QOps.st rfl rfl (Yv.move rfl).yl ?_
  refine QOps.st rfl rfl (Yl.call callable57 (.cons rfl (.cons rfl (.nil))) (fun w' hw' => isPace_spec ((Rd.arg hs) w' hw'))) ?_
  refine QOps.st rfl rfl (Yv.not rfl).yl ?_
  refine QOps.st rfl rfl (Yv.move rfl).yl ?_
  refine' QOps.or [_, _, _, _] _ (.tmp 20) rfl rfl rfl rfl rfl rfl (fun hg1 => ?_) ?_
  rotate_left
  · try replace hg1 := of_decide_eq_false hg1
    refine QOps.st rfl rfl (Yv.move rfl).yl ?_
    refine QOps.st rfl rfl (Yv.move rfl).yl ?_
    refine QOps.st rfl rfl (Yl.call callable57 (.cons rfl (.cons rfl (.nil))) (fun w' hw' => isPace_spec ((Rd.arg hs2) w' hw'))) ?_
    refine QOps.st rfl rfl (Yv.not rfl).yl ?_
    exact QOps.nil rfl
  refine QOps.st rfl rfl (Yv.move rfl).yl ?_
  refine' QOps.or [_, _, _] _ (.tmp 25) rfl rfl rfl rfl rfl rfl (fun hg2 => ?_) ?_
  rotate_left
  · try replace hg2 := of_decide_eq_false hg2
    refine QOps.st rfl rfl (Yv.move rfl).yl ?_
    refine QOps.st rfl rfl (Yl.call callable52 (.cons rfl (.nil)) (fun w' hw' => isMinute_spec)) ?_
    refine QOps.st rfl rfl (Yv.not rfl).yl ?_
    exact QOps.nil rfl
  refine QOps.nil ?_
  refine Run.cond rfl (fun hc1 => ?_) (fun hc1 => ?_)
  · try replace hc1 := of_decide_eq_true hc1
    have hn : ¬ (areFixes fs && areFixes gs && inB pace 0 500 && inB minute 0 9999) = true := by revert hc1; cases areFixes fs <;> cases areFixes gs <;> cases inB pace 0 500 <;> cases inB minute 0 9999 <;> simp
    refine Run.seq ?_
    refine Run.quiet (by intro h; cases h) ?_
    refine QOps.st rfl rfl (Yv.assign rfl).yl ?_
    refine QOps.st rfl rfl (Yv.assign rfl).yl ?_
    refine QOps.nil ?_
    refine Run.ret ?_
    refine retQ.of (.inr rfl) rfl (.tmp rfl (.tmp rfl .nil)) (fun w' hw' => ?_)
    refine ⟨?_, hw'.bel.below⟩
    unfold meetOf; rw [if_neg (by unfold meetAsked; exact hn)]; rfl
  · try replace hc1 := of_decide_eq_false hc1
    have hy : (areFixes fs && areFixes gs && inB pace 0 500 && inB minute 0 9999) = true := by revert hc1; cases areFixes fs <;> cases areFixes gs <;> cases inB pace 0 500 <;> cases inB minute 0 9999 <;> simp
    have hyy := hy
    simp only [Bool.and_eq_true] at hyy
    obtain ⟨⟨⟨hg0, hg1⟩, hg2⟩, hg3⟩ := hyy
    have hok0 := areFixes_all hg0
    have hlen0 := (areFixes_ok hg0)
    have hok1 := areFixes_all hg1
    have hlen1 := (areFixes_ok hg1)
    have hb2 := inB_iff.1 hg2
    have hb3 := inB_iff.1 hg3
    have hall := app_ok hok0 hok1
    have hlapp : (fs ++ gs).length = fs.length + gs.length := List.length_append
    refine Run.skip ?_
    refine Run.seq ?_
    refine Run.ops ?_
    refine SOps.st rfl rfl (Yv.move rfl).yl ?_
    refine SOps.st rfl rfl (Yv.move rfl).yl ?_
    refine SOps.one rfl (One.buildSliceG (pv := [(0, _), (1, _)]) (cs := [_, _]) (fun l => match l with | [a0_0, a1_0] => [a0_0, a1_0] | _ => []) rfl el94 (.cons rfl (.cons rfl (.nil))) rfl rfl (by kernel_rfl) rfl rfl (fun b1 => ?_))
    refine SOps.one rfl (One.callRow rfl callable70 (.cons rfl (.nil)) (fun w' hw' => Concat2_spec ((Rd.row (i := 0) rfl) w' hw') ((Rd.arg hs) w' hw') ((Rd.arg hs2) w' hw') (by omega) (by omega)) (fun A1 c1 => ?_))
    refine SOps.st rfl rfl (Yv.move rfl).yl ?_
    refine SOps.st rfl rfl (Yv.move rfl).yl ?_
    refine SOps.st rfl rfl (Yl.call callable65 (.cons rfl (.cons rfl (.cons rfl (.nil)))) (fun w' hw' => spanAt_spec ((Rd.row (i := 0) rfl) w' hw') (by assumption) (by omega) (by omega) (by omega) (by omega) (by omega))) ?_
    refine SOps.st rfl rfl (Yv.move rfl).yl ?_
    refine SOps.st rfl rfl (Yv.extract rfl rfl).yl ?_
    refine SOps.st rfl rfl (Yv.extract rfl rfl).yl ?_
    refine SOps.one rfl (One.alloc rfl zero37 (fun b2 => ?_))
    refine SOps.one rfl (One.store (i := 0) (off := 0) (vs := [_, _]) (cs' := [_, _]) (H' := [_, _, _]) lay37 rfl rfl rfl rfl rfl rfl rfl rfl rfl rfl ?_)
    refine SOps.st rfl rfl (Yv.assign rfl).yl ?_
    refine SOps.nil ?_
    refine Run.seq ?_
    refine Run.quiet (by intro h; cases h) ?_
    refine QOps.st rfl rfl (Yv.move rfl).yl ?_
    refine QOps.st rfl rfl (Yv.assign rfl).yl ?_
    refine QOps.st rfl rfl (Yv.assign rfl).yl ?_
    refine QOps.nil ?_
    refine Run.ret ?_
    refine retQ.of (.inr rfl) rfl (.tmp rfl (.tmp rfl .nil)) (fun w' hw' => ?_)
    refine ⟨?_, hw'.bel.below⟩
    unfold meetOf; rw [if_pos (by unfold meetAsked; exact hy), ← meet_app]; rfl

theorem sMayMeet_spec {w : World} {A A2 : Option Addr} {c c2 : Nat} {fs gs : List Fix} {pace minute : Int} (hs : Sl w 3 A fs.length c (fs.flatMap Fix.enc)) (hs2 : Sl w 3 A2 gs.length c2 (gs.flatMap Fix.enc)) :
    Calls Try.prog 30 #[.slice A fs.length c, .slice A2 gs.length c2, .int .i64 pace, .int .i64 minute] w (RetB w (.tuple #[.bool (meetOf fs gs pace minute).1, .bool (meetOf fs gs pace minute).2])) := by
  refine calls_of_run (vs := [_, _, _, _]) (L := [(0, _), (1, _), (2, _), (3, _)]) (n := 49) (F := []) (H := []) Try.func30 rfl rfl rfl rfl (HOk.start _) ?_
  refine Run.seq ?_
  refine Run.quiet (by intro h; cases h) ?_
  refine QOps.st rfl rfl (Yv.assign rfl).yl ?_
  refine QOps.st rfl rfl (Yv.assign rfl).yl ?_
  refine QOps.nil ?_
  refine Run.seq ?_
  refine Run.seq ?_
  refine Run.quiet (by intro h; cases h) ?_
  refine QOps.st rfl rfl (Yv.move rfl).yl ?_
  refine QOps.st rfl rfl (Yl.call callable51 (.cons rfl (.nil)) (fun w' hw' => l21Good_spec ((Rd.arg hs) w' hw'))) ?_
  refine QOps.st rfl rfl (Yv.not rfl).yl ?_
  refine QOps.st rfl rfl (Yv.move rfl).yl ?_
  refine' QOps.or [_, _, _] _ (.tmp 18) rfl rfl rfl rfl rfl rfl (fun hg1 => ?_) ?_
  rotate_left
  · try replace hg1 := of_decide_eq_false hg1
    refine QOps.st rfl rfl (Yv.move rfl).yl ?_
    refine QOps.st rfl rfl (Yl.call callable51 (.cons rfl (.nil)) (fun w' hw' => l21Good_spec ((Rd.arg hs2) w' hw'))) ?_
    refine QOps.st rfl rfl (Yv.not rfl).yl ?_
    exact QOps.nil rfl
  refine QOps.st rfl rfl (Yv.move rfl).yl ?_
  refine' QOps.or [_, _, _] _ (.tmp 23) rfl rfl rfl rfl rfl rfl (fun hg2 => ?_) ?_
  rotate_left
  · try replace hg2 := of_decide_eq_false hg2
    refine QOps.st rfl rfl (Yv.move rfl).yl ?_
    refine QOps.st rfl rfl (Yl.call callable55 (.cons rfl (.nil)) (fun w' hw' => l21Pace_spec)) ?_
    refine QOps.st rfl rfl (Yv.not rfl).yl ?_
    exact QOps.nil rfl
  refine QOps.st rfl rfl (Yv.move rfl).yl ?_
  refine' QOps.or [_, _, _] _ (.tmp 28) rfl rfl rfl rfl rfl rfl (fun hg3 => ?_) ?_
  rotate_left
  · try replace hg3 := of_decide_eq_false hg3
    refine QOps.st rfl rfl (Yv.move rfl).yl ?_
    refine QOps.st rfl rfl (Yl.call callable59 (.cons rfl (.nil)) (fun w' hw' => l8Minute_spec)) ?_
    refine QOps.st rfl rfl (Yv.not rfl).yl ?_
    exact QOps.nil rfl
  refine QOps.nil ?_
  refine Run.cond rfl (fun hc1 => ?_) (fun hc1 => ?_)
  · try replace hc1 := of_decide_eq_true hc1
    have hn : ¬ (areFixes fs && areFixes gs && inB pace 0 500 && inB minute 0 9999) = true := by revert hc1; cases areFixes fs <;> cases areFixes gs <;> cases inB pace 0 500 <;> cases inB minute 0 9999 <;> simp
    refine Run.seq ?_
    refine Run.quiet (by intro h; cases h) ?_
    refine QOps.st rfl rfl (Yv.assign rfl).yl ?_
    refine QOps.st rfl rfl (Yv.assign rfl).yl ?_
    refine QOps.nil ?_
    refine Run.ret ?_
    refine retQ.of (.inr rfl) rfl (.tmp rfl (.tmp rfl .nil)) (fun w' hw' => ?_)
    refine ⟨?_, hw'.bel.below⟩
    unfold meetOf; rw [if_neg (by unfold meetAsked; exact hn)]; rfl
  · try replace hc1 := of_decide_eq_false hc1
    have hy : (areFixes fs && areFixes gs && inB pace 0 500 && inB minute 0 9999) = true := by revert hc1; cases areFixes fs <;> cases areFixes gs <;> cases inB pace 0 500 <;> cases inB minute 0 9999 <;> simp
    have hyy := hy
    simp only [Bool.and_eq_true] at hyy
    obtain ⟨⟨⟨hg0, hg1⟩, hg2⟩, hg3⟩ := hyy
    have hok0 := areFixes_all hg0
    have hlen0 := (areFixes_ok hg0)
    have hok1 := areFixes_all hg1
    have hlen1 := (areFixes_ok hg1)
    have hb2 := inB_iff.1 hg2
    have hb3 := inB_iff.1 hg3
    have hall := app_ok hok0 hok1
    have hlapp : (fs ++ gs).length = fs.length + gs.length := List.length_append
    refine Run.skip ?_
    refine Run.seq ?_
    refine Run.ops ?_
    refine SOps.st rfl rfl (Yv.move rfl).yl ?_
    refine SOps.st rfl rfl (Yv.move rfl).yl ?_
    refine SOps.st rfl rfl (Yv.move rfl).yl ?_
    refine SOps.st rfl rfl (Yl.call callable64 (.cons rfl (.cons rfl (.cons rfl (.nil)))) (fun w' hw' => l21Span_spec ((Rd.arg hs) w' hw') (by assumption) (by omega) (by omega) (by omega) (by omega))) ?_
    refine SOps.st rfl rfl (Yv.move rfl).yl ?_
    refine SOps.st rfl rfl (Yv.move rfl).yl ?_
    refine SOps.st rfl rfl (Yv.move rfl).yl ?_
    refine SOps.st rfl rfl (Yl.call callable64 (.cons rfl (.cons rfl (.cons rfl (.nil)))) (fun w' hw' => l21Span_spec ((Rd.arg hs2) w' hw') (by assumption) (by omega) (by omega) (by omega) (by omega))) ?_
    refine SOps.one rfl (One.alloc rfl zero37 (fun b1 => ?_))
    refine SOps.one rfl (One.alloc rfl zero37 (fun b2 => ?_))
    refine SOps.one rfl (One.store (i := 1) (off := 0) (vs := [_, _]) (cs' := [_, _]) (H' := [_, _]) lay37 rfl rfl rfl rfl rfl rfl rfl rfl rfl rfl ?_)
    refine SOps.one rfl (One.store (i := 0) (off := 0) (vs := [_, _]) (cs' := [_, _]) (H' := [_, _]) lay37 rfl rfl rfl rfl rfl rfl rfl rfl rfl rfl ?_)
    refine SOps.nil ?_
    refine Run.seq ?_
    refine Run.quiet (fun _ => ⟨by kernel_rfl, by kernel_rfl⟩) ?_
    refine QOps.st rfl rfl (Yv.fieldAddr fld37_0 rfl).yl ?_
    refine QOps.st rfl rfl (Yv.loadB (i := 1) lay3 rfl rfl rfl rfl).yl ?_
    refine QOps.st rfl rfl (Yv.fieldAddr fld37_0 rfl).yl ?_
    refine QOps.st rfl rfl (Yv.loadB (i := 0) lay3 rfl rfl rfl rfl).yl ?_
    refine QOps.st rfl rfl (Yl.call callable68 (.cons rfl (.cons rfl (.nil))) (fun w' hw' => l1Most_spec)) ?_
    refine QOps.st rfl rfl (Yv.fieldAddr fld37_1 rfl).yl ?_
    refine QOps.st rfl rfl (Yv.loadB (i := 1) lay3 rfl rfl rfl rfl).yl ?_
    refine QOps.st rfl rfl (Yv.fieldAddr fld37_1 rfl).yl ?_
    refine QOps.st rfl rfl (Yv.loadB (i := 0) lay3 rfl rfl rfl rfl).yl ?_
    refine QOps.st rfl rfl (Yl.call callable69 (.cons rfl (.cons rfl (.nil))) (fun w' hw' => l1Least_spec)) ?_
    refine QOps.st rfl rfl (Yv.leq rfl rfl).yl ?_
    refine QOps.st rfl rfl (Yv.assign rfl).yl ?_
    refine QOps.st rfl rfl (Yv.assign rfl).yl ?_
    refine QOps.nil ?_
    refine Run.ret ?_
    refine retQ.of (.inr rfl) rfl (.tmp rfl (.tmp rfl .nil)) (fun w' hw' => ?_)
    refine ⟨?_, hw'.bel.below⟩
    unfold meetOf; rw [if_pos (by unfold meetAsked; exact hy)]; rfl

theorem FnExactMayMeet_spec {w : World} {A A2 : Option Addr} {c c2 : Nat} {fs gs : List Fix} {pace minute : Int} (hs : Sl w 3 A fs.length c (fs.flatMap Fix.enc)) (hb : 24 * fs.length ≤ 281474976710656) (hs2 : Sl w 3 A2 gs.length c2 (gs.flatMap Fix.enc)) (hb2 : 24 * gs.length ≤ 281474976710656) :
    Calls Try.prog 9 #[.slice A fs.length c, .slice A2 gs.length c2, .int .i64 pace, .int .i64 minute] w (RetB w (.bool true)) := by
  refine calls_of_run (vs := [_, _, _, _]) (L := [(0, _), (1, _), (2, _), (3, _)]) (n := 66) (F := []) (H := []) Try.func9 rfl rfl rfl rfl (HOk.start _) ?_
  refine Run.seq ?_
  refine Run.quiet (by intro h; cases h) ?_
  refine QOps.st rfl rfl (Yv.assign rfl).yl ?_
  refine QOps.nil ?_
  refine Run.seq ?_
  refine Run.quiet (by intro h; cases h) ?_
  refine QOps.st rfl rfl (Yv.assign rfl).yl ?_
  refine QOps.nil ?_
  refine Run.seq ?_
  refine Run.quiet (by intro h; cases h) ?_
  refine QOps.st rfl rfl (Yv.move rfl).yl ?_
  refine QOps.st rfl rfl (Yv.move rfl).yl ?_
  refine QOps.st rfl rfl (Yl.call callable14 (.cons rfl (.cons rfl (.nil))) (fun w' hw' => szFixS_spec (by omega) (by omega) (by omega))) ?_
  refine QOps.st rfl rfl (Yv.assign rfl).yl ?_
  refine QOps.nil ?_
  refine Run.seq ?_
  refine Run.seq ?_
  refine Run.quiet (by intro h; cases h) ?_
  refine QOps.st rfl rfl (Yv.move rfl).yl ?_
  refine QOps.st rfl rfl (Yv.lss rfl rfl).yl ?_
  refine QOps.nil ?_
  refine Run.cond rfl (fun hc1 => ?_) (fun hc1 => ?_)
  · try replace hc1 := of_decide_eq_true hc1
    refine Run.seq ?_
    refine Run.quiet (by intro h; cases h) ?_
    refine QOps.st rfl rfl (Yv.assign rfl).yl ?_
    refine QOps.nil ?_
    refine Run.ret ?_
    refine retQ.of (.inr rfl) rfl (.tmp rfl .nil) (fun w' hw' => ?_)
    refine ⟨?_, hw'.bel.below⟩
    exact rfl
  · try replace hc1 := of_decide_eq_false hc1
    have hn1 : fs.length ≤ 1048576 := by split at hc1 <;> omega
    rw [if_neg (by omega)] at hc1
    refine Run.skip ?_
    refine Run.seq ?_
    refine Run.quiet (by intro h; cases h) ?_
    refine QOps.st rfl rfl (Yv.move rfl).yl ?_
    refine QOps.st rfl rfl (Yv.move rfl).yl ?_
    refine QOps.st rfl rfl (Yl.call callable14 (.cons rfl (.cons rfl (.nil))) (fun w' hw' => szFixS_spec (by omega) (by omega) (by omega))) ?_
    refine QOps.st rfl rfl (Yv.assign rfl).yl ?_
    refine QOps.nil ?_
    refine Run.seq ?_
    refine Run.seq ?_
    refine Run.quiet (by intro h; cases h) ?_
    refine QOps.st rfl rfl (Yv.move rfl).yl ?_
    refine QOps.st rfl rfl (Yv.lss rfl rfl).yl ?_
    refine QOps.nil ?_
    refine Run.cond rfl (fun hc2 => ?_) (fun hc2 => ?_)
    · try replace hc2 := of_decide_eq_true hc2
      refine Run.seq ?_
      refine Run.quiet (by intro h; cases h) ?_
      refine QOps.st rfl rfl (Yv.assign rfl).yl ?_
      refine QOps.nil ?_
      refine Run.ret ?_
      refine retQ.of (.inr rfl) rfl (.tmp rfl .nil) (fun w' hw' => ?_)
      refine ⟨?_, hw'.bel.below⟩
      exact rfl
    · try replace hc2 := of_decide_eq_false hc2
      have hn2 : gs.length ≤ 1048576 := by split at hc2 <;> split at hc2 <;> omega
      refine Run.skip ?_
      refine Run.seq ?_
      refine Run.ops ?_
      refine SOps.st rfl rfl (Yv.move rfl).yl ?_
      refine SOps.one rfl (One.callRow rfl callable16 (.cons rfl (.nil)) (fun w' hw' => toFixS_spec ((Rd.arg hs) w' hw') (by omega)) (fun A1 c1 => ?_))
      refine SOps.st rfl rfl (Yv.move rfl).yl ?_
      refine SOps.one rfl (One.callRow rfl callable16 (.cons rfl (.nil)) (fun w' hw' => toFixS_spec ((Rd.arg hs2) w' hw') (by omega)) (fun A2 c2 => ?_))
      refine SOps.st rfl rfl (Yv.move rfl).yl ?_
      refine SOps.st rfl rfl (Yv.move rfl).yl ?_
      refine SOps.st rfl rfl (Yl.call callable30 (.cons rfl (.cons rfl (.cons rfl (.cons rfl (.nil))))) (fun w' hw' => sMayMeet_spec ((Rd.row (i := 1) rfl) w' hw') ((Rd.row (i := 0) rfl) w' hw'))) ?_
      refine SOps.st rfl rfl (Yv.move rfl).yl ?_
      refine SOps.st rfl rfl (Yv.extract rfl rfl).yl ?_
      refine SOps.st rfl rfl (Yv.extract rfl rfl).yl ?_
      refine SOps.st rfl rfl (Yv.assign rfl).yl ?_
      refine SOps.st rfl rfl (Yv.assign rfl).yl ?_
      refine SOps.nil ?_
      refine Run.seq ?_
      refine Run.ops ?_
      refine SOps.st rfl rfl (Yv.move rfl).yl ?_
      refine SOps.one rfl (One.callRow rfl callable16 (.cons rfl (.nil)) (fun w' hw' => toFixS_spec ((Rd.arg hs) w' hw') (by omega)) (fun A3 c3 => ?_))
      refine SOps.st rfl rfl (Yv.assign rfl).yl ?_
      refine SOps.nil ?_
      refine Run.seq ?_
      refine Run.ops ?_
      refine SOps.st rfl rfl (Yv.move rfl).yl ?_
      refine SOps.one rfl (One.callRow rfl callable16 (.cons rfl (.nil)) (fun w' hw' => toFixS_spec ((Rd.arg hs2) w' hw') (by omega)) (fun A4 c4 => ?_))
      refine SOps.st rfl rfl (Yv.assign rfl).yl ?_
      refine SOps.nil ?_
      refine Run.seq ?_
      refine Run.quiet (by intro h; cases h) ?_
      refine QOps.st rfl rfl (Yv.move rfl).yl ?_
      refine QOps.st rfl rfl (Yv.move rfl).yl ?_
      refine QOps.st rfl rfl (Yv.move rfl).yl ?_
      refine QOps.st rfl rfl (Yv.move rfl).yl ?_
      refine QOps.st rfl rfl (Yl.call callable31 (.cons rfl (.cons rfl (.cons rfl (.cons rfl (.nil))))) (fun w' hw' => MayMeet_spec ((Rd.row (i := 1) rfl) w' hw') ((Rd.row (i := 0) rfl) w' hw'))) ?_
      refine QOps.st rfl rfl (Yv.move rfl).yl ?_
      refine QOps.st rfl rfl (Yv.extract rfl rfl).yl ?_
      refine QOps.st rfl rfl (Yv.extract rfl rfl).yl ?_
      refine QOps.st rfl rfl (Yv.assign rfl).yl ?_
      refine QOps.st rfl rfl (Yv.assign rfl).yl ?_
      refine QOps.nil ?_
      refine Run.seq ?_
      refine Run.seq ?_
      refine Run.quiet (by intro h; cases h) ?_
      refine QOps.st rfl rfl (Yv.move rfl).yl ?_
      refine QOps.st rfl rfl (Yv.move rfl).yl ?_
      refine QOps.st rfl rfl (Yv.neB bool4 rfl rfl).yl ?_
      refine QOps.st rfl rfl (Yv.move rfl).yl ?_
      refine' QOps.or [_, _, _] _ (.tmp 54) rfl rfl rfl rfl rfl rfl (fun hg1 => ?_) ?_
      rotate_left
      · try replace hg1 := of_decide_eq_false hg1
        refine QOps.st rfl rfl (Yv.move rfl).yl ?_
        refine QOps.st rfl rfl (Yv.move rfl).yl ?_
        refine QOps.st rfl rfl (Yv.neB bool4 rfl rfl).yl ?_
        exact QOps.nil rfl
      refine QOps.nil ?_
      refine Run.cond rfl (fun hc3 => ?_) (fun hc3 => ?_)
      · exfalso
        simp at hc3
      · try replace hc3 := of_decide_eq_false hc3
        refine Run.skip ?_
        refine Run.seq ?_
        refine Run.seq ?_
        refine Run.ops ?_
        refine SOps.st rfl rfl (Yv.move rfl).yl ?_
        refine SOps.st rfl rfl (Yv.move rfl).yl ?_
        refine SOps.one rfl (One.callRow rfl callable16 (.cons rfl (.nil)) (fun w' hw' => toFixS_spec ((Rd.arg hs) w' hw') (by omega)) (fun A5 c5 => ?_))
        refine SOps.st rfl rfl (Yl.call callable18 (.cons rfl (.cons rfl (.nil))) (fun w' hw' => eqFixS_spec ((Rd.row (i := 2) rfl) w' hw') ((Rd.row (i := 0) rfl) w' hw'))) ?_
        refine SOps.st rfl rfl (Yv.not rfl).yl ?_
        refine SOps.nil ?_
        refine Run.cond rfl (fun hc4 => ?_) (fun hc4 => ?_)
        · exfalso
          simp at hc4
        · try replace hc4 := of_decide_eq_false hc4
          refine Run.skip ?_
          refine Run.seq ?_
          refine Run.seq ?_
          refine Run.ops ?_
          refine SOps.st rfl rfl (Yv.move rfl).yl ?_
          refine SOps.st rfl rfl (Yv.move rfl).yl ?_
          refine SOps.one rfl (One.callRow rfl callable16 (.cons rfl (.nil)) (fun w' hw' => toFixS_spec ((Rd.arg hs2) w' hw') (by omega)) (fun A6 c6 => ?_))
          refine SOps.st rfl rfl (Yl.call callable18 (.cons rfl (.cons rfl (.nil))) (fun w' hw' => eqFixS_spec ((Rd.row (i := 2) rfl) w' hw') ((Rd.row (i := 0) rfl) w' hw'))) ?_
          refine SOps.st rfl rfl (Yv.not rfl).yl ?_
          refine SOps.nil ?_
          refine Run.cond rfl (fun hc5 => ?_) (fun hc5 => ?_)
          · exfalso
            simp at hc5
          · try replace hc5 := of_decide_eq_false hc5
            refine Run.skip ?_
            refine Run.seq ?_
            refine Run.quiet (by intro h; cases h) ?_
            refine QOps.st rfl rfl (Yv.assign rfl).yl ?_
            refine QOps.nil ?_
            refine Run.ret ?_
            refine retQ.of (.inr rfl) rfl (.tmp rfl .nil) (fun w' hw' => ?_)
            refine ⟨?_, hw'.bel.below⟩
            exact rfl
end Go.Proofs.Ytliealfihglkmaa
