/- Reports: files, the last report of a vessel, the vessels under way, a report is filed. Conditions: none. -/
import Derived.Test.YtlpgcbkialcjcaaGreatDoorZrR
import Derived.Test.YtlpgcbkialcjcaaGreatDoorIn
namespace Go.Proofs.YtlpgcbkialcjcaaGreatDoor
open Go.RowKit
set_option maxRecDepth 100000
def cmpI (a b : Int) : Int := if a < b then -1 else if b < a then 1 else 0
theorem isNaN_spec {w : World} {a : Int} : Calls Tryz.prog 88 #[.int .i64 a] w (RetB w (.bool false)) := by
  refine calls_of_run (vs := [_]) (L := [(0, _)]) (n := 6) (F := []) (H := []) Tryz.func88 rfl rfl rfl rfl (HOk.start _) ?_
  refine Run.seq ?_
  refine Run.quiet (by intro h; cases h) ?_
  refine QOps.st rfl rfl (Yv.assign rfl).yl ?_
  refine QOps.nil ?_
  refine Run.seq ?_
  refine Run.quiet (by intro h; cases h) ?_
  refine QOps.st rfl rfl (Yv.move rfl).yl ?_
  refine QOps.st rfl rfl (Yv.move rfl).yl ?_
  refine QOps.st rfl rfl (Yv.neI rfl rfl).yl ?_
  refine QOps.st rfl rfl (Yv.assign rfl).yl ?_
  refine QOps.nil ?_
  refine Run.ret ?_
  refine retQ.of (.inr rfl) rfl (.tmp rfl .nil) (fun w' hw' => ?_)
  refine ⟨?_, hw'.bel.below⟩
  refine retB_eq ?_
  simp
theorem Compare_spec {w : World} {a b : Int} : Calls Tryz.prog 72 #[.int .i64 a, .int .i64 b] w (RetB w (.int .i64 (cmpI a b))) := by
  refine calls_of_run (vs := [_, _]) (L := [(0, _), (1, _)]) (n := 20) (F := []) (H := []) Tryz.func72 rfl rfl rfl rfl (HOk.start _) ?_
  refine Run.seq ?_
  refine Run.quiet (by intro h; cases h) ?_
  refine QOps.st rfl rfl (Yv.assign rfl).yl ?_
  refine QOps.nil ?_
  refine Run.seq ?_
  refine Run.quiet (by intro h; cases h) ?_
  refine QOps.st rfl rfl (Yv.move rfl).yl ?_
  refine QOps.st rfl rfl (Yl.call callable88 (.cons rfl (.nil)) (fun w' hw' => isNaN_spec)) ?_
  refine QOps.st rfl rfl (Yv.assign rfl).yl ?_
  refine QOps.nil ?_
  refine Run.seq ?_
  refine Run.quiet (by intro h; cases h) ?_
  refine QOps.st rfl rfl (Yv.move rfl).yl ?_
  refine QOps.st rfl rfl (Yl.call callable88 (.cons rfl (.nil)) (fun w' hw' => isNaN_spec)) ?_
  refine QOps.st rfl rfl (Yv.assign rfl).yl ?_
  refine QOps.nil ?_
  refine Run.seq ?_
  refine Run.seq ?_
  refine Run.quiet (by intro h; cases h) ?_
  refine QOps.st rfl rfl (Yv.move rfl).yl ?_
  refine QOps.nil ?_
  refine Run.cond rfl (fun hc1 => ?_) (fun hc1 => ?_)
  · exfalso
    cases hc1
  · try replace hc1 := of_decide_eq_false hc1
    refine Run.skip ?_
    refine Run.seq ?_
    refine Run.seq ?_
    refine Run.quiet (by intro h; cases h) ?_
    refine QOps.st rfl rfl (Yv.move rfl).yl ?_
    refine QOps.nil ?_
    refine Run.cond rfl (fun hc2 => ?_) (fun hc2 => ?_)
    · exfalso
      cases hc2
    · try replace hc2 := of_decide_eq_false hc2
      refine Run.skip ?_
      refine Run.seq ?_
      refine Run.seq ?_
      refine Run.quiet (by intro h; cases h) ?_
      refine QOps.st rfl rfl (Yv.move rfl).yl ?_
      refine QOps.st rfl rfl (Yv.move rfl).yl ?_
      refine QOps.st rfl rfl (Yv.lss rfl rfl).yl ?_
      refine QOps.nil ?_
      refine Run.cond rfl (fun hc3 => ?_) (fun hc3 => ?_)
      · try replace hc3 := of_decide_eq_true hc3
        refine Run.seq ?_
        refine Run.quiet (by intro h; cases h) ?_
        refine QOps.st rfl rfl (Yv.assign rfl).yl ?_
        refine QOps.nil ?_
        refine Run.ret ?_
        refine retQ.of (.inr rfl) rfl (.tmp rfl .nil) (fun w' hw' => ?_)
        refine ⟨?_, hw'.bel.below⟩
        refine retI_eq ?_
        unfold cmpI; rw [if_pos hc3]
      · try replace hc3 := of_decide_eq_false hc3
        refine Run.skip ?_
        refine Run.seq ?_
        refine Run.seq ?_
        refine Run.quiet (by intro h; cases h) ?_
        refine QOps.st rfl rfl (Yv.move rfl).yl ?_
        refine QOps.st rfl rfl (Yv.move rfl).yl ?_
        refine QOps.st rfl rfl (Yv.gtr rfl rfl).yl ?_
        refine QOps.nil ?_
        refine Run.cond rfl (fun hc4 => ?_) (fun hc4 => ?_)
        · try replace hc4 := of_decide_eq_true hc4
          refine Run.seq ?_
          refine Run.quiet (by intro h; cases h) ?_
          refine QOps.st rfl rfl (Yv.assign rfl).yl ?_
          refine QOps.nil ?_
          refine Run.ret ?_
          refine retQ.of (.inr rfl) rfl (.tmp rfl .nil) (fun w' hw' => ?_)
          refine ⟨?_, hw'.bel.below⟩
          refine retI_eq ?_
          unfold cmpI; rw [if_neg hc3, if_pos hc4]
        · try replace hc4 := of_decide_eq_false hc4
          refine Run.skip ?_
          refine Run.seq ?_
          refine Run.quiet (by intro h; cases h) ?_
          refine QOps.st rfl rfl (Yv.assign rfl).yl ?_
          refine QOps.nil ?_
          refine Run.ret ?_
          refine retQ.of (.inr rfl) rfl (.tmp rfl .nil) (fun w' hw' => ?_)
          refine ⟨?_, hw'.bel.below⟩
          refine retI_eq ?_
          unfold cmpI; rw [if_neg hc3, if_neg hc4]
def orI : List Int → Int
  | [] => 0
  | x :: r => if x = 0 then orI r else x
theorem dropI_nth {α : Type} [Inhabited α] {l : List α} {k : Nat} (h : k < l.length) : l.drop k = nth l k :: l.drop (k + 1) := by
  rw [List.drop_eq_getElem_cons h]
  simp [nth, h]
theorem Or_spec {w : World} {A : Option Addr} {c : Nat} {l : List Int} (hs : Sl w 1 A l.length c (l.flatMap intC)) : Calls Tryz.prog 71 #[.slice A l.length c] w (RetB w (.int .i64 (orI l))) := by
  have hmx := Sl.lenle hs
  refine calls_of_run (vs := [_]) (L := [(0, _)]) (n := 18) (F := []) (H := []) Tryz.func71 rfl rfl rfl rfl (HOk.start _) ?_
  refine Run.seq ?_
  refine Run.quiet (by intro h; cases h) ?_
  refine QOps.st rfl rfl (Yv.assign rfl).yl ?_
  refine QOps.nil ?_
  refine Run.seq ?_
  refine Run.quiet (by intro h; cases h) ?_
  refine QOps.st rfl rfl (Yv.assign rfl).yl ?_
  refine QOps.nil ?_
  refine Run.seq ?_
  refine Run.seq ?_
  refine Run.quiet (by intro h; cases h) ?_
  refine QOps.st rfl rfl (Yv.move rfl).yl ?_
  refine QOps.st rfl rfl (Yv.lenS el41s rfl).yl ?_
  refine QOps.st rfl rfl (Yv.move rfl).yl ?_
  refine QOps.nil ?_
  refine Run.block ?_
  refine Run.loop (S := Nat) (fun s => match s with | k => k ≤ l.length ∧ orI (l.drop k) = orI l) (fun s => match s with | k => [(3, .int .i64 0), (6, .slice A l.length c), (7, .int .i64 (l.length : Int)), (8, .int .i64 (k : Int))]) (fun s => match s with | k => []) (fun s => match s with | k => l.length - k) 0 ?_ (SubE.cons rfl (SubE.cons rfl (SubE.cons rfl (SubE.cons rfl (SubE.nil _))))) (List.Sublist.refl _) ?_
  · exact ⟨by omega, rfl⟩
  · rintro k ⟨hk, heq⟩
    show Run _ _ _ _ _ [(3, .int .i64 0), (6, .slice A l.length c), (7, .int .i64 (l.length : Int)), (8, .int .i64 (k : Int))] [] _
    refine Run.seq ?_
    refine Run.quiet (by intro h; cases h) ?_
    refine QOps.st rfl rfl (Yv.lss rfl rfl).yl ?_
    refine QOps.nil ?_
    refine Run.seq ?_
    refine Run.cond rfl (fun hc1 => ?_) (fun hc1 => ?_)
    · try replace hc1 := of_decide_eq_true hc1
      refine Run.skip ?_
      refine Run.seq ?_
      refine Run.block ?_
      refine Run.seq ?_
      refine Run.quiet (by intro h; cases h) ?_
      refine QOps.st rfl rfl (Yv.indexAddr k el41 rfl rfl rfl (Rd.arg hs) (by omega)).yl ?_
      refine QOps.st rfl rfl (Yv.loadE lay3 rfl intC_len (Rd.arg hs) (by first | omega | (simp; omega)) rfl).yl ?_
      refine QOps.st rfl rfl (Yv.assign rfl).yl ?_
      refine QOps.nil ?_
      refine Run.seq ?_
      refine Run.quiet (by intro h; cases h) ?_
      refine QOps.st rfl rfl (Yv.move rfl).yl ?_
      refine QOps.st rfl rfl (Yv.move rfl).yl ?_
      refine QOps.st rfl rfl (Yv.neI rfl rfl).yl ?_
      refine QOps.nil ?_
      refine Run.cond rfl (fun hc2 => ?_) (fun hc2 => ?_)
      · try replace hc2 := of_decide_eq_true hc2
        have hx : orI l = nth l k := by rw [← heq, dropI_nth (by omega), orI, if_neg (by simpa using hc2)]
        refine Run.seq ?_
        refine Run.quiet (by intro h; cases h) ?_
        refine QOps.st rfl rfl (Yv.move rfl).yl ?_
        refine QOps.st rfl rfl (Yv.assign rfl).yl ?_
        refine QOps.nil ?_
        refine Run.ret ?_
        refine retQ.of (.inr rfl) rfl (.tmp rfl .nil) (fun w' hw' => ?_)
        refine ⟨?_, hw'.bel.below⟩
        refine retI_eq ?_
        rw [hx]
      · try replace hc2 := of_decide_eq_false hc2
        refine Run.skip ?_
        refine Run.quiet (by intro h; cases h) ?_
        refine QOps.st rfl rfl (Yv.succN rfl rfl (by omega)).yl ?_
        refine QOps.st rfl rfl (Yv.move rfl).yl ?_
        refine QOps.nil ?_
        refine ⟨k + 1, ?_, ?_, (SubE.cons rfl (SubE.cons rfl (SubE.cons rfl (SubE.cons rfl (SubE.nil _))))), (List.Sublist.refl _)⟩
        · exact ⟨by omega, by rw [← heq, dropI_nth (l := l) (k := k) (by omega), orI, if_pos (by simpa using hc2)]⟩
        · first | omega | (dsimp only; omega)
    · try replace hc1 := of_decide_eq_false hc1
      refine Run.exit ?_
      refine Run.seq ?_
      refine Run.quiet (by intro h; cases h) ?_
      refine QOps.st rfl rfl (Yv.move rfl).yl ?_
      refine QOps.st rfl rfl (Yv.assign rfl).yl ?_
      refine QOps.nil ?_
      refine Run.ret ?_
      refine retQ.of (.inr rfl) rfl (.tmp rfl .nil) (fun w' hw' => ?_)
      refine ⟨?_, hw'.bel.below⟩
      refine retI_eq ?_
      rw [← heq, List.drop_of_length_le (by omega)]; rfl

def cmpR (a b : Report) : Int := orI [cmpI a.vessel b.vessel, cmpI a.number b.number]
def beforeR (a b : Report) : Bool := decide (a.vessel < b.vessel) || (decide (a.vessel = b.vessel) && decide (a.number < b.number))
theorem cmpI_lt {a b : Int} (h : a < b) : cmpI a b = -1 := by unfold cmpI; rw [if_pos h]
theorem cmpI_eq {a b : Int} (h : a = b) : cmpI a b = 0 := by unfold cmpI; rw [if_neg (by omega), if_neg (by omega)]
theorem cmpI_self {a : Int} : cmpI a a = 0 := cmpI_eq rfl
theorem cmpI_gt {a b : Int} (h : b < a) : cmpI a b = 1 := by unfold cmpI; rw [if_neg (by omega), if_pos h]
theorem cmpR_ge {a b : Report} : decide (0 ≤ cmpR a b) = !beforeR a b := by
  unfold cmpR beforeR
  rcases Int.lt_trichotomy a.vessel b.vessel with h | h | h
  · simp [orI, cmpI_lt h, h]
  · rcases Int.lt_trichotomy a.number b.number with h2 | h2 | h2
    · simp [orI, cmpI_self, cmpI_lt h2, h, h2]
    · simp [orI, cmpI_self, h, h2]
    · have h3 : ¬ a.number < b.number := by omega
      simp [orI, cmpI_self, cmpI_gt h2, h, h3]
  · have h3 : ¬ a.vessel < b.vessel := by omega
    have h4 : ¬ a.vessel = b.vessel := by omega
    simp [orI, cmpI_gt h, h3, h4]
theorem compareReports_spec {w : World} {a b : Report} : Calls Tryz.prog 46 #[.agg a.enc.toArray, .agg b.enc.toArray] w (RetB w (.int .i64 (cmpR a b))) := by
  refine calls_of_run (vs := [_, _]) (L := [(0, _), (1, _)]) (n := 17) (F := []) (H := []) Tryz.func46 rfl rfl rfl rfl (HOk.start _) ?_
  refine Run.seq ?_
  refine Run.ops ?_
  refine SOps.one rfl (One.box (cs := [_, _, _, _, _, _]) rfl rfl rfl (fun b1 => ?_))
  refine SOps.one rfl (One.box (cs := [_, _, _, _, _, _]) rfl rfl rfl (fun b2 => ?_))
  refine SOps.st rfl rfl (Yv.assign rfl).yl ?_
  refine SOps.nil ?_
  refine Run.seq ?_
  refine Run.draws (fun H => H) (m := 13) (listed := #[false, false, false, false, false, false, false, false, false, false, false, false, false]) (by kernel_rfl) rfl rfl ?_
  refine DOps.take (listed' := #[true, false, false, false, false, false, false, false, false, false, false, false, false]) 0 rfl (by kernel_rfl) rfl (List.Sublist.refl _) rfl rfl (Yv.fieldAddr fld25_0 rfl) ?_
  refine DOps.take (listed' := #[true, true, false, false, false, false, false, false, false, false, false, false, false]) 1 rfl (by kernel_rfl) rfl (List.Sublist.refl _) rfl rfl (Yv.loadB (i := 1) lay3 rfl rfl rfl rfl) ?_
  refine DOps.take (listed' := #[true, true, true, false, false, false, false, false, false, false, false, false, false]) 2 rfl (by kernel_rfl) rfl (List.Sublist.refl _) rfl rfl (Yv.fieldAddr fld25_0 rfl) ?_
  refine DOps.take (listed' := #[true, true, true, true, false, false, false, false, false, false, false, false, false]) 3 rfl (by kernel_rfl) rfl (List.Sublist.refl _) rfl rfl (Yv.loadB (i := 0) lay3 rfl rfl rfl rfl) ?_
  refine DOps.take (listed' := #[true, true, true, true, false, true, false, false, false, false, false, false, false]) 5 rfl (by kernel_rfl) rfl (List.Sublist.refl _) rfl rfl (Yv.fieldAddr fld25_1 rfl) ?_
  refine DOps.take (listed' := #[true, true, true, true, false, true, true, false, false, false, false, false, false]) 6 rfl (by kernel_rfl) rfl (List.Sublist.refl _) rfl rfl (Yv.loadB (i := 1) lay3 rfl rfl rfl rfl) ?_
  refine DOps.take (listed' := #[true, true, true, true, false, true, true, true, false, false, false, false, false]) 7 rfl (by kernel_rfl) rfl (List.Sublist.refl _) rfl rfl (Yv.fieldAddr fld25_1 rfl) ?_
  refine DOps.take (listed' := #[true, true, true, true, false, true, true, true, true, false, false, false, false]) 8 rfl (by kernel_rfl) rfl (List.Sublist.refl _) rfl rfl (Yv.loadB (i := 0) lay3 rfl rfl rfl rfl) ?_
  refine DOps.only (listed' := #[true, true, true, true, true, true, true, true, true, false, false, false, false]) 4 rfl (by kernel_rfl) rfl rfl ?_
  refine One.st rfl (Yl.call callable72 (.cons rfl (.cons rfl (.nil))) (fun w' hw' => Compare_spec)) ?_
  refine ⟨(List.Sublist.refl _), ?_⟩
  refine DOps.only (listed' := #[true, true, true, true, true, true, true, true, true, true, false, false, false]) 9 rfl (by kernel_rfl) rfl rfl ?_
  refine One.st rfl (Yl.call callable72 (.cons rfl (.cons rfl (.nil))) (fun w' hw' => Compare_spec)) ?_
  refine ⟨(List.Sublist.refl _), ?_⟩
  refine DOps.only (listed' := #[true, true, true, true, true, true, true, true, true, true, true, false, false]) 10 rfl (by kernel_rfl) rfl rfl ?_
  refine One.buildSliceG (pv := [(0, _), (1, _)]) (cs := [_, _]) (fun l => match l with | [a0_0, a1_0] => [a0_0, a1_0] | _ => []) rfl el41 (.cons rfl (.cons rfl (.nil))) rfl rfl (by kernel_rfl) rfl rfl (fun b3 => ?_)
  refine ⟨(List.Sublist.cons _ (List.Sublist.refl _)), ?_⟩
  refine DOps.only (listed' := #[true, true, true, true, true, true, true, true, true, true, true, true, false]) 11 rfl (by kernel_rfl) rfl rfl ?_
  refine One.st rfl (Yl.call callable71 (.cons rfl (.nil)) (fun w' hw' => Or_spec (l := [cmpI a.vessel b.vessel, cmpI a.number b.number]) (Rd.row (i := 0) rfl w' hw'))) ?_
  refine ⟨(List.Sublist.cons _ (List.Sublist.refl _)), ?_⟩
  refine DOps.take (listed' := #[true, true, true, true, true, true, true, true, true, true, true, true, true]) 12 rfl (by kernel_rfl) rfl (List.Sublist.cons _ (List.Sublist.refl _)) rfl rfl (Yv.assign rfl) ?_
  refine DOps.done (by kernel_rfl) ?_
  refine Run.ret ?_
  refine retQ.of (.inr rfl) rfl (.tmp rfl .nil) (fun w' hw' => ?_)
  refine ⟨?_, hw'.bel.below⟩
  exact rfl
theorem l20Before_spec {w : World} {a b : Report} : Calls Tryz.prog 49 #[.agg a.enc.toArray, .agg b.enc.toArray] w (RetB w (.bool (beforeR a b))) := by
  refine calls_of_run (vs := [_, _]) (L := [(0, _), (1, _)]) (n := 24) (F := []) (H := []) Tryz.func49 rfl rfl rfl rfl (HOk.start _) ?_
  refine Run.seq ?_
  refine Run.ops ?_
  refine SOps.one rfl (One.box (cs := [_, _, _, _, _, _]) rfl rfl rfl (fun b1 => ?_))
  refine SOps.one rfl (One.box (cs := [_, _, _, _, _, _]) rfl rfl rfl (fun b2 => ?_))
  refine SOps.st rfl rfl (Yv.assign rfl).yl ?_
  refine SOps.nil ?_
  refine Run.seq ?_
  refine Run.quiet (by intro h; cases h) ?_
  refine QOps.st rfl rfl (Yv.fieldAddr fld25_0 rfl).yl ?_
  refine QOps.st rfl rfl (Yv.loadB (i := 1) lay3 rfl rfl rfl rfl).yl ?_
  refine QOps.st rfl rfl (Yv.fieldAddr fld25_0 rfl).yl ?_
  refine QOps.st rfl rfl (Yv.loadB (i := 0) lay3 rfl rfl rfl rfl).yl ?_
  refine QOps.st rfl rfl (Yv.lss rfl rfl).yl ?_
  refine QOps.st rfl rfl (Yv.move rfl).yl ?_
  refine' QOps.or [_, _, _, _, _, _, _, _, _, _, _, _] _ (.tmp 22) rfl rfl rfl rfl rfl rfl (fun hg1 => ?_) ?_
  rotate_left
  · try replace hg1 := of_decide_eq_false hg1
    refine QOps.st rfl rfl (Yv.fieldAddr fld25_0 rfl).yl ?_
    refine QOps.st rfl rfl (Yv.loadB (i := 1) lay3 rfl rfl rfl rfl).yl ?_
    refine QOps.st rfl rfl (Yv.fieldAddr fld25_0 rfl).yl ?_
    refine QOps.st rfl rfl (Yv.loadB (i := 0) lay3 rfl rfl rfl rfl).yl ?_
    refine QOps.st rfl rfl (Yv.eqI rfl rfl).yl ?_
    refine QOps.st rfl rfl (Yv.move rfl).yl ?_
    refine' QOps.and [_, _, _, _, _] _ (.tmp 21) rfl rfl rfl rfl rfl rfl (fun hg2 => ?_) ?_
    rotate_left
    · try replace hg2 := of_decide_eq_true hg2
      refine QOps.st rfl rfl (Yv.fieldAddr fld25_1 rfl).yl ?_
      refine QOps.st rfl rfl (Yv.loadB (i := 1) lay3 rfl rfl rfl rfl).yl ?_
      refine QOps.st rfl rfl (Yv.fieldAddr fld25_1 rfl).yl ?_
      refine QOps.st rfl rfl (Yv.loadB (i := 0) lay3 rfl rfl rfl rfl).yl ?_
      refine QOps.st rfl rfl (Yv.lss rfl rfl).yl ?_
      exact QOps.nil rfl
    exact QOps.nil rfl
  refine QOps.st rfl rfl (Yv.assign rfl).yl ?_
  refine QOps.nil ?_
  refine Run.ret ?_
  refine retQ.of (.inr rfl) rfl (.tmp rfl .nil) (fun w' hw' => ?_)
  refine ⟨?_, hw'.bel.below⟩
  exact rfl

def badR (rs : List Report) (k : Nat) : Bool := !oneR (nth rs k) || (decide ((0 : Int) < (k : Int)) && !beforeR (nth rs (k - 1)) (nth rs k))
def isFile (rs : List Report) : Bool := allTo rs.length (fun k => !badR rs k) && decide ((rs.length : Int) ≤ 12)
theorem file_bad {rs : List Report} {k : Nat} (hk : k < rs.length) (h : badR rs k = true) : isFile rs = false := by
  unfold isFile
  rw [allTo_false hk (by rw [h]; rfl)]
  rfl
theorem file_good {rs : List Report} (h : ∀ i, i < rs.length → badR rs i = false) : isFile rs = decide ((rs.length : Int) ≤ 12) := by
  unfold isFile
  rw [allTo_iff.2 (fun i hi => by rw [h i hi]; rfl)]
  rfl
theorem file_parts {rs : List Report} (h : isFile rs = true) : rs.length ≤ 12 ∧ ∀ k, k < rs.length → badR rs k = false := by
  simp only [isFile, Bool.and_eq_true, decide_eq_true_eq, allTo_iff, Bool.not_eq_true'] at h
  exact ⟨by omega, h.1⟩
theorem bad_one {rs : List Report} {k : Nat} (h : badR rs k = false) : oneR (nth rs k) = true := by
  simp only [badR, Bool.or_eq_false_iff, Bool.not_eq_false'] at h
  exact h.1
theorem IsFile_spec {w : World} {A : Option Addr} {c : Nat} {rs : List Report} (hs : Sl w 6 A rs.length c (rs.flatMap Report.enc)) : Calls Tryz.prog 16 #[.slice A rs.length c] w (RetB w (.bool (isFile rs))) := by
  have hmx := Sl.lenle hs
  refine calls_of_run (vs := [_]) (L := [(0, _)]) (n := 33) (F := []) (H := []) Tryz.func16 rfl rfl rfl rfl (HOk.start _) ?_
  refine Run.seq ?_
  refine Run.quiet (by intro h; cases h) ?_
  refine QOps.st rfl rfl (Yv.assign rfl).yl ?_
  refine QOps.nil ?_
  refine Run.seq ?_
  refine Run.seq ?_
  refine Run.quiet (by intro h; cases h) ?_
  refine QOps.st rfl rfl (Yv.move rfl).yl ?_
  refine QOps.st rfl rfl (Yv.lenS el33s rfl).yl ?_
  refine QOps.st rfl rfl (Yv.move rfl).yl ?_
  refine QOps.nil ?_
  refine Run.block ?_
  refine Run.loop (S := Nat) (fun s => match s with | k => k ≤ rs.length ∧ ∀ i, i < k → badR rs i = false) (fun s => match s with | k => [(0, .slice A rs.length c), (5, .slice A rs.length c), (6, .int .i64 (rs.length : Int)), (7, .int .i64 (k : Int))]) (fun s => match s with | k => []) (fun s => match s with | k => rs.length - k) 0 ?_ (SubE.cons rfl (SubE.cons rfl (SubE.cons rfl (SubE.cons rfl (SubE.nil _))))) (List.Sublist.refl _) ?_
  · exact ⟨by omega, fun i hi => by omega⟩
  · rintro k ⟨hk, hall⟩
    show Run _ _ _ _ _ [(0, .slice A rs.length c), (5, .slice A rs.length c), (6, .int .i64 (rs.length : Int)), (7, .int .i64 (k : Int))] [] _
    refine Run.seq ?_
    refine Run.quiet (by intro h; cases h) ?_
    refine QOps.st rfl rfl (Yv.lss rfl rfl).yl ?_
    refine QOps.nil ?_
    refine Run.seq ?_
    refine Run.cond rfl (fun hc1 => ?_) (fun hc1 => ?_)
    · try replace hc1 := of_decide_eq_true hc1
      refine Run.skip ?_
      refine Run.seq ?_
      refine Run.block ?_
      refine Run.seq ?_
      refine Run.ops ?_
      refine SOps.st rfl rfl (Yv.move rfl).yl ?_
      refine SOps.st rfl rfl (Yv.indexAddr k el33 rfl rfl rfl (Rd.arg hs) (by omega)).yl ?_
      refine SOps.st rfl rfl (Yv.loadEs lay25 rfl Report.len (Rd.arg hs) (by first | omega | (simp; omega)) (by decide)).yl ?_
      refine SOps.one rfl (One.alloc rfl zero25 (fun b1 => ?_))
      refine SOps.st rfl rfl (Yv.assign rfl).yl ?_
      refine SOps.one rfl (One.store (i := 0) (off := 0) (vs := [_, _, _, _, _, _]) (cs' := [_, _, _, _, _, _]) (H' := [_]) lay25 rfl rfl rfl rfl rfl rfl rfl rfl rfl rfl ?_)
      refine SOps.nil ?_
      refine Run.seq ?_
      refine Run.quiet (fun _ => ⟨by kernel_rfl, by kernel_rfl⟩) ?_
      refine QOps.st rfl rfl (Yv.loadBs (i := 0) lay25 rfl rfl rfl rfl).yl ?_
      refine QOps.st rfl rfl (Yl.call callable8 (.cons rfl (.nil)) (fun w' hw' => IsEReport_spec)) ?_
      refine QOps.st rfl rfl (Yv.not rfl).yl ?_
      refine QOps.st rfl rfl (Yv.move rfl).yl ?_
      refine' QOps.or [_, _, _, _, _, _, _, _, _, _, _, _] _ (.tmp 27) rfl rfl rfl rfl rfl rfl (fun hg1 => ?_) ?_
      rotate_left
      · try replace hg1 := of_decide_eq_false hg1
        refine QOps.st rfl rfl (Yv.move rfl).yl ?_
        refine QOps.st rfl rfl (Yv.gtr rfl rfl).yl ?_
        refine QOps.st rfl rfl (Yv.move rfl).yl ?_
        refine' QOps.and [_, _, _, _, _, _, _, _] _ (.tmp 26) rfl rfl rfl rfl rfl rfl (fun hg2 => ?_) ?_
        rotate_left
        · try replace hg2 := of_decide_eq_true hg2
          refine QOps.st rfl rfl (Yv.move rfl).yl ?_
          refine QOps.st rfl rfl (Yv.move rfl).yl ?_
          refine QOps.st rfl rfl (Yv.sub rfl rfl (by omega)).yl ?_
          refine QOps.st rfl rfl (Yv.indexAddr (k - 1) el33 rfl rfl (by omega) (Rd.arg hs) (by omega)).yl ?_
          refine QOps.st rfl rfl (Yv.loadEs lay25 rfl Report.len (Rd.arg hs) (by first | omega | (simp; omega)) (by decide)).yl ?_
          refine QOps.st rfl rfl (Yv.loadBs (i := 0) lay25 rfl rfl rfl rfl).yl ?_
          refine QOps.st rfl rfl (Yl.call callable46 (.cons rfl (.cons rfl (.nil))) (fun w' hw' => compareReports_spec)) ?_
          refine QOps.st rfl rfl (Yv.geq rfl rfl).yl ?_
          exact QOps.nil rfl
        exact QOps.nil rfl
      refine QOps.nil ?_
      refine Run.cond rfl (fun hc2 => ?_) (fun hc2 => ?_)
      · try replace hc2 := of_decide_eq_true hc2
        have h2 : badR rs k = true := by rw [cmpR_ge] at hc2; exact hc2
        refine Run.seq ?_
        refine Run.quiet (by intro h; cases h) ?_
        refine QOps.st rfl rfl (Yv.assign rfl).yl ?_
        refine QOps.nil ?_
        refine Run.ret ?_
        refine retQ.of (.inr rfl) rfl (.tmp rfl .nil) (fun w' hw' => ?_)
        refine ⟨?_, hw'.bel.below⟩
        refine retB_eq ?_
        rw [file_bad (k := k) (by omega) h2]
      · try replace hc2 := of_decide_eq_false hc2
        have h2 : badR rs k = false := by rw [cmpR_ge] at hc2; exact hc2
        refine Run.skip ?_
        refine Run.quiet (by intro h; cases h) ?_
        refine QOps.st rfl rfl (Yv.succN rfl rfl (by omega)).yl ?_
        refine QOps.st rfl rfl (Yv.move rfl).yl ?_
        refine QOps.nil ?_
        refine ⟨k + 1, ?_, ?_, (SubE.cons rfl (SubE.cons rfl (SubE.cons rfl (SubE.cons rfl (SubE.nil _))))), (List.Sublist.cons _ (List.Sublist.refl _))⟩
        · exact ⟨by omega, all_succ hall h2⟩
        · first | omega | (dsimp only; omega)
    · try replace hc1 := of_decide_eq_false hc1
      refine Run.exit ?_
      refine Run.seq ?_
      refine Run.quiet (by intro h; cases h) ?_
      refine QOps.st rfl rfl (Yv.move rfl).yl ?_
      refine QOps.st rfl rfl (Yv.lenS el33s rfl).yl ?_
      refine QOps.st rfl rfl (Yv.leq rfl rfl).yl ?_
      refine QOps.st rfl rfl (Yv.assign rfl).yl ?_
      refine QOps.nil ?_
      refine Run.ret ?_
      refine retQ.of (.inr rfl) rfl (.tmp rfl .nil) (fun w' hw' => ?_)
      refine ⟨?_, hw'.bel.below⟩
      refine retB_eq ?_
      rw [file_good (fun i hi => hall i (by omega))]

theorem l20File_spec {w : World} {A : Option Addr} {c : Nat} {rs : List Report} (hs : Sl w 6 A rs.length c (rs.flatMap Report.enc)) : Calls Tryz.prog 48 #[.slice A rs.length c] w (RetB w (.bool (isFile rs))) := by
  have hmx := Sl.lenle hs
  refine calls_of_run (vs := [_]) (L := [(0, _)]) (n := 36) (F := []) (H := []) Tryz.func48 rfl rfl rfl rfl (HOk.start _) ?_
  refine Run.seq ?_
  refine Run.quiet (by intro h; cases h) ?_
  refine QOps.st rfl rfl (Yv.assign rfl).yl ?_
  refine QOps.nil ?_
  refine Run.seq ?_
  refine Run.seq ?_
  refine Run.quiet (by intro h; cases h) ?_
  refine QOps.st rfl rfl (Yv.assign rfl).yl ?_
  refine QOps.nil ?_
  refine Run.block ?_
  refine Run.loop (S := Nat) (fun s => match s with | k => k ≤ rs.length ∧ ∀ i, i < k → badR rs i = false) (fun s => match s with | k => [(0, .slice A rs.length c), (3, .int .i64 (k : Int))]) (fun s => match s with | k => []) (fun s => match s with | k => rs.length - k) 0 ?_ (SubE.cons rfl (SubE.cons rfl (SubE.nil _))) (List.Sublist.refl _) ?_
  · exact ⟨by omega, fun i hi => by omega⟩
  · rintro k ⟨hk, hall⟩
    show Run _ _ _ _ _ [(0, .slice A rs.length c), (3, .int .i64 (k : Int))] [] _
    refine Run.seq ?_
    refine Run.seq ?_
    refine Run.quiet (by intro h; cases h) ?_
    refine QOps.st rfl rfl (Yv.move rfl).yl ?_
    refine QOps.st rfl rfl (Yv.move rfl).yl ?_
    refine QOps.st rfl rfl (Yv.lenS el33s rfl).yl ?_
    refine QOps.st rfl rfl (Yv.lss rfl rfl).yl ?_
    refine QOps.nil ?_
    refine Run.cond rfl (fun hc1 => ?_) (fun hc1 => ?_)
    · try replace hc1 := of_decide_eq_true hc1
      refine Run.skip ?_
      refine Run.seq ?_
      refine Run.block ?_
      refine Run.seq ?_
      refine Run.quiet (fun _ => ⟨by kernel_rfl, by kernel_rfl⟩) ?_
      refine QOps.st rfl rfl (Yv.move rfl).yl ?_
      refine QOps.st rfl rfl (Yv.move rfl).yl ?_
      refine QOps.st rfl rfl (Yv.indexAddr k el33 rfl rfl rfl (Rd.arg hs) (by omega)).yl ?_
      refine QOps.st rfl rfl (Yv.loadEs lay25 rfl Report.len (Rd.arg hs) (by first | omega | (simp; omega)) (by decide)).yl ?_
      refine QOps.st rfl rfl (Yl.call callable24 (.cons rfl (.nil)) (fun w' hw' => l20One_spec)) ?_
      refine QOps.st rfl rfl (Yv.not rfl).yl ?_
      refine QOps.st rfl rfl (Yv.move rfl).yl ?_
      refine' QOps.or [_, _, _, _, _, _, _, _, _, _, _, _, _, _, _] _ (.tmp 31) rfl rfl rfl rfl rfl rfl (fun hg1 => ?_) ?_
      rotate_left
      · try replace hg1 := of_decide_eq_false hg1
        refine QOps.st rfl rfl (Yv.move rfl).yl ?_
        refine QOps.st rfl rfl (Yv.gtr rfl rfl).yl ?_
        refine QOps.st rfl rfl (Yv.move rfl).yl ?_
        refine' QOps.and [_, _, _, _, _, _, _, _, _, _, _] _ (.tmp 30) rfl rfl rfl rfl rfl rfl (fun hg2 => ?_) ?_
        rotate_left
        · try replace hg2 := of_decide_eq_true hg2
          refine QOps.st rfl rfl (Yv.move rfl).yl ?_
          refine QOps.st rfl rfl (Yv.move rfl).yl ?_
          refine QOps.st rfl rfl (Yv.sub rfl rfl (by omega)).yl ?_
          refine QOps.st rfl rfl (Yv.indexAddr (k - 1) el33 rfl rfl (by omega) (Rd.arg hs) (by omega)).yl ?_
          refine QOps.st rfl rfl (Yv.loadEs lay25 rfl Report.len (Rd.arg hs) (by first | omega | (simp; omega)) (by decide)).yl ?_
          refine QOps.st rfl rfl (Yv.move rfl).yl ?_
          refine QOps.st rfl rfl (Yv.move rfl).yl ?_
          refine QOps.st rfl rfl (Yv.indexAddr k el33 rfl rfl rfl (Rd.arg hs) (by omega)).yl ?_
          refine QOps.st rfl rfl (Yv.loadEs lay25 rfl Report.len (Rd.arg hs) (by first | omega | (simp; omega)) (by decide)).yl ?_
          refine QOps.st rfl rfl (Yl.call callable49 (.cons rfl (.cons rfl (.nil))) (fun w' hw' => l20Before_spec)) ?_
          refine QOps.st rfl rfl (Yv.not rfl).yl ?_
          exact QOps.nil rfl
        exact QOps.nil rfl
      refine QOps.nil ?_
      refine Run.cond rfl (fun hc2 => ?_) (fun hc2 => ?_)
      · try replace hc2 := of_decide_eq_true hc2
        have h2 : badR rs k = true := by exact hc2
        refine Run.seq ?_
        refine Run.quiet (by intro h; cases h) ?_
        refine QOps.st rfl rfl (Yv.assign rfl).yl ?_
        refine QOps.nil ?_
        refine Run.ret ?_
        refine retQ.of (.inr rfl) rfl (.tmp rfl .nil) (fun w' hw' => ?_)
        refine ⟨?_, hw'.bel.below⟩
        refine retB_eq ?_
        rw [file_bad (k := k) (by omega) h2]
      · try replace hc2 := of_decide_eq_false hc2
        have h2 : badR rs k = false := by exact hc2
        refine Run.skip ?_
        refine Run.quiet (by intro h; cases h) ?_
        refine QOps.st rfl rfl (Yv.move rfl).yl ?_
        refine QOps.st rfl rfl (Yv.succN rfl rfl (by omega)).yl ?_
        refine QOps.st rfl rfl (Yv.assign rfl).yl ?_
        refine QOps.nil ?_
        refine ⟨k + 1, ?_, ?_, (SubE.cons rfl (SubE.cons rfl (SubE.nil _))), (List.Sublist.refl _)⟩
        · exact ⟨by omega, all_succ hall h2⟩
        · first | omega | (dsimp only; omega)
    · try replace hc1 := of_decide_eq_false hc1
      refine Run.exit ?_
      refine Run.seq ?_
      refine Run.quiet (by intro h; cases h) ?_
      refine QOps.st rfl rfl (Yv.move rfl).yl ?_
      refine QOps.st rfl rfl (Yv.lenS el33s rfl).yl ?_
      refine QOps.st rfl rfl (Yv.leq rfl rfl).yl ?_
      refine QOps.st rfl rfl (Yv.assign rfl).yl ?_
      refine QOps.nil ?_
      refine Run.ret ?_
      refine retQ.of (.inr rfl) rfl (.tmp rfl .nil) (fun w' hw' => ?_)
      refine ⟨?_, hw'.bel.below⟩
      refine retB_eq ?_
      rw [file_good (fun i hi => hall i (by omega))]

/-- The index of the last one of the first k reports that is of a vessel, or -1. -/
def lastTo (rs : List Report) (v : Int) : Nat → Int
  | 0 => -1
  | k + 1 => if (nth rs k).vessel = v then (k : Int) else lastTo rs v k
theorem lastTo_range {rs : List Report} {v : Int} : ∀ {k : Nat}, -1 ≤ lastTo rs v k ∧ lastTo rs v k < (k : Int)
  | 0 => ⟨Int.le_refl _, by simp [lastTo]⟩
  | k + 1 => by
    have ih := lastTo_range (rs := rs) (v := v) (k := k)
    rw [lastTo]
    split <;> omega
theorem lastIndex_spec {w : World} {A : Option Addr} {c : Nat} {rs : List Report} {v : Int} (hs : Sl w 6 A rs.length c (rs.flatMap Report.enc)) : Calls Tryz.prog 50 #[.slice A rs.length c, .int .i64 v] w (RetB w (.int .i64 (lastTo rs v rs.length))) := by
  have hmx := Sl.lenle hs
  refine calls_of_run (vs := [_, _]) (L := [(0, _), (1, _)]) (n := 22) (F := []) (H := []) Tryz.func50 rfl rfl rfl rfl (HOk.start _) ?_
  refine Run.seq ?_
  refine Run.quiet (by intro h; cases h) ?_
  refine QOps.st rfl rfl (Yv.assign rfl).yl ?_
  refine QOps.nil ?_
  refine Run.seq ?_
  refine Run.quiet (by intro h; cases h) ?_
  refine QOps.st rfl rfl (Yv.assign rfl).yl ?_
  refine QOps.nil ?_
  refine Run.seq ?_
  refine Run.seq ?_
  refine Run.quiet (by intro h; cases h) ?_
  refine QOps.st rfl rfl (Yv.move rfl).yl ?_
  refine QOps.st rfl rfl (Yv.lenS el33s rfl).yl ?_
  refine QOps.st rfl rfl (Yv.move rfl).yl ?_
  refine QOps.nil ?_
  refine Run.block ?_
  refine Run.loop (S := Nat × Int) (fun s => match s with | (k, x) => k ≤ rs.length ∧ x = lastTo rs v k) (fun s => match s with | (k, x) => [(1, .int .i64 v), (5, .int .i64 x), (8, .slice A rs.length c), (9, .int .i64 (rs.length : Int)), (10, .int .i64 (k : Int))]) (fun s => match s with | (k, x) => []) (fun s => match s with | (k, x) => rs.length - k) (0, -1) ?_ (SubE.cons rfl (SubE.cons rfl (SubE.cons rfl (SubE.cons rfl (SubE.cons rfl (SubE.nil _)))))) (List.Sublist.refl _) ?_
  · exact ⟨by omega, rfl⟩
  · rintro ⟨k, x⟩ ⟨hk, hx⟩
    show Run _ _ _ _ _ [(1, .int .i64 v), (5, .int .i64 x), (8, .slice A rs.length c), (9, .int .i64 (rs.length : Int)), (10, .int .i64 (k : Int))] [] _
    refine Run.seq ?_
    refine Run.quiet (by intro h; cases h) ?_
    refine QOps.st rfl rfl (Yv.lss rfl rfl).yl ?_
    refine QOps.nil ?_
    refine Run.seq ?_
    refine Run.cond rfl (fun hc1 => ?_) (fun hc1 => ?_)
    · try replace hc1 := of_decide_eq_true hc1
      refine Run.skip ?_
      refine Run.seq ?_
      refine Run.block ?_
      refine Run.seq ?_
      refine Run.ops ?_
      refine SOps.st rfl rfl (Yv.move rfl).yl ?_
      refine SOps.st rfl rfl (Yv.indexAddr k el33 rfl rfl rfl (Rd.arg hs) (by omega)).yl ?_
      refine SOps.st rfl rfl (Yv.loadEs lay25 rfl Report.len (Rd.arg hs) (by first | omega | (simp; omega)) (by decide)).yl ?_
      refine SOps.one rfl (One.alloc rfl zero25 (fun b1 => ?_))
      refine SOps.st rfl rfl (Yv.assign rfl).yl ?_
      refine SOps.one rfl (One.store (i := 0) (off := 0) (vs := [_, _, _, _, _, _]) (cs' := [_, _, _, _, _, _]) (H' := [_]) lay25 rfl rfl rfl rfl rfl rfl rfl rfl rfl rfl ?_)
      refine SOps.nil ?_
      refine Run.seq ?_
      refine Run.quiet (by intro h; cases h) ?_
      refine QOps.st rfl rfl (Yv.fieldAddr fld25_0 rfl).yl ?_
      refine QOps.st rfl rfl (Yv.loadB (i := 0) lay3 rfl rfl rfl rfl).yl ?_
      refine QOps.st rfl rfl (Yv.move rfl).yl ?_
      refine QOps.st rfl rfl (Yv.eqI rfl rfl).yl ?_
      refine QOps.nil ?_
      refine Run.cond rfl (fun hc2 => ?_) (fun hc2 => ?_)
      · try replace hc2 := of_decide_eq_true hc2
        refine Run.quiet (by intro h; cases h) ?_
        refine QOps.st rfl rfl (Yv.move rfl).yl ?_
        refine QOps.st rfl rfl (Yv.assign rfl).yl ?_
        refine QOps.nil ?_
        refine Run.quiet (by intro h; cases h) ?_
        refine QOps.st rfl rfl (Yv.succN rfl rfl (by omega)).yl ?_
        refine QOps.st rfl rfl (Yv.move rfl).yl ?_
        refine QOps.nil ?_
        refine ⟨(k + 1, _), ?_, ?_, (SubE.cons rfl (SubE.cons rfl (SubE.cons rfl (SubE.cons rfl (SubE.cons rfl (SubE.nil _)))))), (List.Sublist.cons _ (List.Sublist.refl _))⟩
        · exact ⟨by omega, by rw [lastTo, if_pos hc2]⟩
        · first | omega | (dsimp only; omega)
      · try replace hc2 := of_decide_eq_false hc2
        refine Run.skip ?_
        refine Run.quiet (by intro h; cases h) ?_
        refine QOps.st rfl rfl (Yv.succN rfl rfl (by omega)).yl ?_
        refine QOps.st rfl rfl (Yv.move rfl).yl ?_
        refine QOps.nil ?_
        refine ⟨(k + 1, x), ?_, ?_, (SubE.cons rfl (SubE.cons rfl (SubE.cons rfl (SubE.cons rfl (SubE.cons rfl (SubE.nil _)))))), (List.Sublist.cons _ (List.Sublist.refl _))⟩
        · exact ⟨by omega, by rw [lastTo, if_neg hc2, hx]⟩
        · first | omega | (dsimp only; omega)
    · try replace hc1 := of_decide_eq_false hc1
      refine Run.exit ?_
      refine Run.seq ?_
      refine Run.quiet (by intro h; cases h) ?_
      refine QOps.st rfl rfl (Yv.move rfl).yl ?_
      refine QOps.st rfl rfl (Yv.assign rfl).yl ?_
      refine QOps.nil ?_
      refine Run.ret ?_
      obtain rfl : k = rs.length := by omega
      subst hx
      refine retQ.of (.inr rfl) rfl (.tmp rfl .nil) (fun w' hw' => ?_)
      refine ⟨?_, hw'.bel.below⟩
      exact rfl

theorem l20Last_spec {w : World} {A : Option Addr} {c : Nat} {rs : List Report} {v : Int} (hs : Sl w 6 A rs.length c (rs.flatMap Report.enc)) : Calls Tryz.prog 51 #[.slice A rs.length c, .int .i64 v] w (RetB w (.int .i64 (lastTo rs v rs.length))) := by
  have hmx := Sl.lenle hs
  refine calls_of_run (vs := [_, _]) (L := [(0, _), (1, _)]) (n := 22) (F := []) (H := []) Tryz.func51 rfl rfl rfl rfl (HOk.start _) ?_
  refine Run.seq ?_
  refine Run.quiet (by intro h; cases h) ?_
  refine QOps.st rfl rfl (Yv.assign rfl).yl ?_
  refine QOps.nil ?_
  refine Run.seq ?_
  refine Run.quiet (by intro h; cases h) ?_
  refine QOps.st rfl rfl (Yv.assign rfl).yl ?_
  refine QOps.nil ?_
  refine Run.seq ?_
  refine Run.seq ?_
  refine Run.quiet (by intro h; cases h) ?_
  refine QOps.st rfl rfl (Yv.assign rfl).yl ?_
  refine QOps.nil ?_
  refine Run.block ?_
  refine Run.loop (S := Nat × Int) (fun s => match s with | (k, x) => k ≤ rs.length ∧ x = lastTo rs v k) (fun s => match s with | (k, x) => [(0, .slice A rs.length c), (1, .int .i64 v), (5, .int .i64 x), (6, .int .i64 (k : Int))]) (fun s => match s with | (k, x) => []) (fun s => match s with | (k, x) => rs.length - k) (0, -1) ?_ (SubE.cons rfl (SubE.cons rfl (SubE.cons rfl (SubE.cons rfl (SubE.nil _))))) (List.Sublist.refl _) ?_
  · exact ⟨by omega, rfl⟩
  · rintro ⟨k, x⟩ ⟨hk, hx⟩
    show Run _ _ _ _ _ [(0, .slice A rs.length c), (1, .int .i64 v), (5, .int .i64 x), (6, .int .i64 (k : Int))] [] _
    refine Run.seq ?_
    refine Run.seq ?_
    refine Run.quiet (by intro h; cases h) ?_
    refine QOps.st rfl rfl (Yv.move rfl).yl ?_
    refine QOps.st rfl rfl (Yv.move rfl).yl ?_
    refine QOps.st rfl rfl (Yv.lenS el33s rfl).yl ?_
    refine QOps.st rfl rfl (Yv.lss rfl rfl).yl ?_
    refine QOps.nil ?_
    refine Run.cond rfl (fun hc1 => ?_) (fun hc1 => ?_)
    · try replace hc1 := of_decide_eq_true hc1
      refine Run.skip ?_
      refine Run.seq ?_
      refine Run.block ?_
      refine Run.seq ?_
      refine Run.quiet (by intro h; cases h) ?_
      refine QOps.st rfl rfl (Yv.move rfl).yl ?_
      refine QOps.st rfl rfl (Yv.move rfl).yl ?_
      refine QOps.st rfl rfl (Yv.indexAddr k el33 rfl rfl rfl (Rd.arg hs) (by omega)).yl ?_
      refine QOps.st rfl rfl (Yv.fieldAddr fld25_0 rfl).yl ?_
      refine QOps.st rfl rfl (Yv.loadF lay3 rfl Report.len (Rd.arg hs) (by first | omega | (simp; omega)) (by decide) rfl).yl ?_
      refine QOps.st rfl rfl (Yv.move rfl).yl ?_
      refine QOps.st rfl rfl (Yv.eqI rfl rfl).yl ?_
      refine QOps.nil ?_
      refine Run.cond rfl (fun hc2 => ?_) (fun hc2 => ?_)
      · try replace hc2 := of_decide_eq_true hc2
        refine Run.quiet (by intro h; cases h) ?_
        refine QOps.st rfl rfl (Yv.move rfl).yl ?_
        refine QOps.st rfl rfl (Yv.assign rfl).yl ?_
        refine QOps.nil ?_
        refine Run.quiet (by intro h; cases h) ?_
        refine QOps.st rfl rfl (Yv.move rfl).yl ?_
        refine QOps.st rfl rfl (Yv.succN rfl rfl (by omega)).yl ?_
        refine QOps.st rfl rfl (Yv.assign rfl).yl ?_
        refine QOps.nil ?_
        refine ⟨(k + 1, _), ?_, ?_, (SubE.cons rfl (SubE.cons rfl (SubE.cons rfl (SubE.cons rfl (SubE.nil _))))), (List.Sublist.refl _)⟩
        · exact ⟨by omega, by rw [lastTo, if_pos hc2]⟩
        · first | omega | (dsimp only; omega)
      · try replace hc2 := of_decide_eq_false hc2
        refine Run.skip ?_
        refine Run.quiet (by intro h; cases h) ?_
        refine QOps.st rfl rfl (Yv.move rfl).yl ?_
        refine QOps.st rfl rfl (Yv.succN rfl rfl (by omega)).yl ?_
        refine QOps.st rfl rfl (Yv.assign rfl).yl ?_
        refine QOps.nil ?_
        refine ⟨(k + 1, x), ?_, ?_, (SubE.cons rfl (SubE.cons rfl (SubE.cons rfl (SubE.cons rfl (SubE.nil _))))), (List.Sublist.refl _)⟩
        · exact ⟨by omega, by rw [lastTo, if_neg hc2, hx]⟩
        · first | omega | (dsimp only; omega)
    · try replace hc1 := of_decide_eq_false hc1
      refine Run.exit ?_
      refine Run.seq ?_
      refine Run.quiet (by intro h; cases h) ?_
      refine QOps.st rfl rfl (Yv.move rfl).yl ?_
      refine QOps.st rfl rfl (Yv.assign rfl).yl ?_
      refine QOps.nil ?_
      refine Run.ret ?_
      obtain rfl : k = rs.length := by omega
      subst hx
      refine retQ.of (.inr rfl) rfl (.tmp rfl .nil) (fun w' hw' => ?_)
      refine ⟨?_, hw'.bel.below⟩
      exact rfl

def lastOf (rs : List Report) (v : Int) : Report × Bool := if (!isFile rs || decide (lastTo rs v rs.length < 0)) = true then (default, false) else (nth rs (lastTo rs v rs.length).toNat, true)
theorem retAB_eq {cs cs' : Array Value} {b b' : Bool} (h : cs = cs') (h' : b = b') : Ending.returned (single [.agg cs, .bool b]) = .returned (.tuple #[.agg cs', .bool b']) := by rw [h, h']; rfl
theorem LastReport_spec {w : World} {A : Option Addr} {c : Nat} {rs : List Report} {v : Int} (hs : Sl w 6 A rs.length c (rs.flatMap Report.enc)) : Calls Tryz.prog 21 #[.slice A rs.length c, .int .i64 v] w (RetB w (.tuple #[.agg (lastOf rs v).1.enc.toArray, .bool (lastOf rs v).2])) := by
  refine calls_of_run (vs := [_, _]) (L := [(0, _), (1, _)]) (n := 22) (F := []) (H := []) Tryz.func21 rfl rfl rfl rfl (HOk.start _) ?_
  refine Run.seq ?_
  refine Run.ops ?_
  refine SOps.one rfl (One.alloc rfl zero25 (fun b1 => ?_))
  refine SOps.st rfl rfl (Yv.assign rfl).yl ?_
  refine SOps.nil ?_
  refine Run.seq ?_
  refine Run.quiet (by intro h; cases h) ?_
  refine QOps.st rfl rfl (Yv.move rfl).yl ?_
  refine QOps.st rfl rfl (Yv.move rfl).yl ?_
  refine QOps.st rfl rfl (Yl.call callable50 (.cons rfl (.cons rfl (.nil))) (fun w' hw' => lastIndex_spec ((Rd.arg hs) w' hw'))) ?_
  refine QOps.st rfl rfl (Yv.assign rfl).yl ?_
  refine QOps.nil ?_
  refine Run.seq ?_
  refine Run.seq ?_
  refine Run.quiet (by intro h; cases h) ?_
  refine QOps.st rfl rfl (Yv.move rfl).yl ?_
  refine QOps.st rfl rfl (Yl.call callable16 (.cons rfl (.nil)) (fun w' hw' => IsFile_spec ((Rd.arg hs) w' hw'))) ?_
  refine QOps.st rfl rfl (Yv.not rfl).yl ?_
  refine QOps.st rfl rfl (Yv.move rfl).yl ?_
  refine' QOps.or [_, _] _ (.tmp 15) rfl rfl rfl rfl rfl rfl (fun hg1 => ?_) ?_
  rotate_left
  · try replace hg1 := of_decide_eq_false hg1
    refine QOps.st rfl rfl (Yv.move rfl).yl ?_
    refine QOps.st rfl rfl (Yv.lss rfl rfl).yl ?_
    exact QOps.nil rfl
  refine QOps.nil ?_
  refine Run.cond rfl (fun hc1 => ?_) (fun hc1 => ?_)
  · try replace hc1 := of_decide_eq_true hc1
    refine Run.seq ?_
    refine Run.ops ?_
    refine SOps.st rfl rfl (Yv.buildG (pv := []) (cs := [_, _, _, _, _, _]) (fun _ => [.int .i64 0, .int .i64 0, .int .i64 0, .int .i64 0, .int .i64 0, .int .i64 0]) .nil rfl rfl (by kernel_rfl)).yl ?_
    refine SOps.one rfl (One.store (i := 0) (off := 0) (vs := [_, _, _, _, _, _]) (cs' := [_, _, _, _, _, _]) (H' := [_]) lay25 rfl rfl rfl rfl rfl rfl rfl rfl rfl rfl ?_)
    refine SOps.st rfl rfl (Yv.assign rfl).yl ?_
    refine SOps.nil ?_
    refine Run.ret ?_
    refine retQ.of (.inr rfl) rfl (.cells (i := 0) rfl lay25 rfl rfl (.tmp rfl .nil)) (fun w' hw' => ?_)
    refine ⟨?_, hw'.bel.below⟩
    refine retAB_eq ?_ ?_ <;> (unfold lastOf; rw [if_pos hc1]); rfl
  · try replace hc1 := of_decide_eq_false hc1
    have hge : ¬ lastTo rs v rs.length < 0 := by cases h : isFile rs <;> simp_all
    have hr := lastTo_range (rs := rs) (v := v) (k := rs.length)
    obtain ⟨k, hk⟩ : ∃ k : Nat, lastTo rs v rs.length = (k : Int) := ⟨(lastTo rs v rs.length).toNat, by omega⟩
    rw [hk]
    rw [hk] at hr
    refine Run.skip ?_
    refine Run.seq ?_
    refine Run.ops ?_
    refine SOps.st rfl rfl (Yv.move rfl).yl ?_
    refine SOps.st rfl rfl (Yv.move rfl).yl ?_
    refine SOps.st rfl rfl (Yv.indexAddr k el33 rfl rfl rfl (Rd.arg hs) (by omega)).yl ?_
    refine SOps.st rfl rfl (Yv.loadEs lay25 rfl Report.len (Rd.arg hs) (by first | omega | (simp; omega)) (by decide)).yl ?_
    refine SOps.one rfl (One.store (i := 0) (off := 0) (vs := [_, _, _, _, _, _]) (cs' := [_, _, _, _, _, _]) (H' := [_]) lay25 rfl rfl rfl rfl rfl rfl rfl rfl rfl rfl ?_)
    refine SOps.st rfl rfl (Yv.assign rfl).yl ?_
    refine SOps.nil ?_
    refine Run.ret ?_
    refine retQ.of (.inr rfl) rfl (.cells (i := 0) rfl lay25 rfl rfl (.tmp rfl .nil)) (fun w' hw' => ?_)
    refine ⟨?_, hw'.bel.below⟩
    refine retAB_eq ?_ ?_ <;> (unfold lastOf; rw [if_neg (by rw [hc1]; simp)]); rw [hk, Int.toNat_natCast]; rfl

/-- The vessels of those of the first k reports that are last and depart. -/
def departs (rs : List Report) (k : Nat) : Bool := decide (lastTo rs (nth rs k).vessel rs.length = (k : Int)) && decide ((nth rs k).kind = 1)
def wayTo (rs : List Report) : Nat → List Int
  | 0 => []
  | k + 1 => if departs rs k = true then wayTo rs k ++ [(nth rs k).vessel] else wayTo rs k
theorem wayTo_len {rs : List Report} : ∀ {k : Nat}, (wayTo rs k).length ≤ k
  | 0 => by simp [wayTo]
  | k + 1 => by
    have ih := wayTo_len (rs := rs) (k := k)
    rw [wayTo]
    split
    · simp; omega
    · omega
def wayOf (rs : List Report) : List Int := if isFile rs = true then wayTo rs rs.length else []
theorem wayOf_len {rs : List Report} : (wayOf rs).length ≤ rs.length := by
  unfold wayOf
  split
  · exact wayTo_len
  · simp
theorem UnderWay_spec {w : World} {A : Option Addr} {c : Nat} {rs : List Report}  (hs : Sl w 6 A rs.length c (rs.flatMap Report.enc)) (hl : rs.length ≤ 1048576) : Calls Tryz.prog 18 #[.slice A rs.length c] w (RetRow w 3 1 (wayOf rs).length ((wayOf rs).flatMap intC) (fun v => .tuple #[v, .bool (isFile rs)])) := by
  have hmx := Sl.lenle hs
  refine calls_of_run (vs := [_]) (L := [(0, _)]) (n := 36) (F := []) (H := []) Tryz.func18 rfl rfl rfl rfl (HOk.start _) ?_
  refine Run.seq ?_
  refine Run.quiet (by intro h; cases h) ?_
  refine QOps.st rfl rfl (Yv.assign rfl).yl ?_
  refine QOps.st rfl rfl (Yv.assign rfl).yl ?_
  refine QOps.nil ?_
  refine Run.seq ?_
  refine Run.seq ?_
  refine Run.quiet (by intro h; cases h) ?_
  refine QOps.st rfl rfl (Yv.move rfl).yl ?_
  refine QOps.st rfl rfl (Yl.call callable16 (.cons rfl (.nil)) (fun w' hw' => IsFile_spec ((Rd.arg hs) w' hw'))) ?_
  refine QOps.st rfl rfl (Yv.not rfl).yl ?_
  refine QOps.nil ?_
  refine Run.cond rfl (fun hc1 => ?_) (fun hc1 => ?_)
  · try replace hc1 := of_decide_eq_true hc1
    have hn : isFile rs = false := by simpa using hc1
    refine Run.seq ?_
    refine Run.quiet (by intro h; cases h) ?_
    refine QOps.st rfl rfl (Yv.assign rfl).yl ?_
    refine QOps.st rfl rfl (Yv.assign rfl).yl ?_
    refine QOps.nil ?_
    refine Run.ret ?_
    refine retQ.of (.inr rfl) rfl (.tmp rfl (.tmp rfl .nil)) (fun w' hw' => ?_)
    unfold wayOf; rw [if_neg (by rw [hn]; simp), hn]; exact ⟨_, _, rfl, hw'.bel.below, ⟨by first | rfl | simp, .inl ⟨rfl, rfl⟩⟩, by simp⟩
  · try replace hc1 := of_decide_eq_false hc1
    have hy : isFile rs = true := by simpa using hc1
    refine Run.skip ?_
    refine Run.seq ?_
    refine Run.ops ?_
    refine SOps.one rfl (One.buildSliceG (pv := []) (cs := []) (fun _ => []) rfl el41 .nil rfl rfl (by kernel_rfl) rfl rfl (fun b1 => ?_))
    refine SOps.st rfl rfl (Yv.assign rfl).yl ?_
    refine SOps.nil ?_
    refine Run.seq ?_
    refine Run.seq ?_
    refine Run.quiet (by intro h; cases h) ?_
    refine QOps.st rfl rfl (Yv.move rfl).yl ?_
    refine QOps.st rfl rfl (Yv.lenS el33s rfl).yl ?_
    refine QOps.st rfl rfl (Yv.move rfl).yl ?_
    refine QOps.nil ?_
    refine Run.block ?_
    refine Run.loop (S := Nat × List Int × Option Addr × Nat) (fun s => match s with | (k, o, A2, c2) => k ≤ rs.length ∧ o.length ≤ k ∧ o = wayTo rs k) (fun s => match s with | (k, o, A2, c2) => [(0, .slice A rs.length c), (4, .slice A2 o.length c2), (11, .slice A rs.length c), (12, .int .i64 (rs.length : Int)), (13, .int .i64 (k : Int))]) (fun s => match s with | (k, o, A2, c2) => [.row A2 c2 3 1 o.length (o.flatMap intC)]) (fun s => match s with | (k, o, A2, c2) => rs.length - k) (0, [], some ⟨b1, 0, none⟩, 0) ?_ (SubE.cons rfl (SubE.cons rfl (SubE.cons rfl (SubE.cons rfl (SubE.cons rfl (SubE.nil _)))))) (List.Sublist.refl _) ?_
    · exact ⟨by omega, by simp, rfl⟩
    · rintro ⟨k, o, A2, c2⟩ ⟨hk, hol, ho⟩
      show Run _ _ _ _ _ [(0, .slice A rs.length c), (4, .slice A2 o.length c2), (11, .slice A rs.length c), (12, .int .i64 (rs.length : Int)), (13, .int .i64 (k : Int))] [.row A2 c2 3 1 o.length (o.flatMap intC)] _
      refine Run.seq ?_
      refine Run.quiet (by intro h; cases h) ?_
      refine QOps.st rfl rfl (Yv.lss rfl rfl).yl ?_
      refine QOps.nil ?_
      refine Run.seq ?_
      refine Run.cond rfl (fun hc2 => ?_) (fun hc2 => ?_)
      · try replace hc2 := of_decide_eq_true hc2
        refine Run.skip ?_
        refine Run.seq ?_
        refine Run.block ?_
        refine Run.seq ?_
        refine Run.ops ?_
        refine SOps.st rfl rfl (Yv.move rfl).yl ?_
        refine SOps.st rfl rfl (Yv.indexAddr k el33 rfl rfl rfl (Rd.arg hs) (by omega)).yl ?_
        refine SOps.st rfl rfl (Yv.loadEs lay25 rfl Report.len (Rd.arg hs) (by first | omega | (simp; omega)) (by decide)).yl ?_
        refine SOps.one rfl (One.alloc rfl zero25 (fun b2 => ?_))
        refine SOps.st rfl rfl (Yv.assign rfl).yl ?_
        refine SOps.one rfl (One.store (i := 0) (off := 0) (vs := [_, _, _, _, _, _]) (cs' := [_, _, _, _, _, _]) (H' := [_, _]) lay25 rfl rfl rfl rfl rfl rfl rfl rfl rfl rfl ?_)
        refine SOps.nil ?_
        refine Run.seq ?_
        refine Run.quiet (by intro h; cases h) ?_
        refine QOps.st rfl rfl (Yv.move rfl).yl ?_
        refine QOps.st rfl rfl (Yv.fieldAddr fld25_0 rfl).yl ?_
        refine QOps.st rfl rfl (Yv.loadB (i := 0) lay3 rfl rfl rfl rfl).yl ?_
        refine QOps.st rfl rfl (Yl.call callable50 (.cons rfl (.cons rfl (.nil))) (fun w' hw' => lastIndex_spec ((Rd.arg hs) w' hw'))) ?_
        refine QOps.st rfl rfl (Yv.move rfl).yl ?_
        refine QOps.st rfl rfl (Yv.eqI rfl rfl).yl ?_
        refine QOps.st rfl rfl (Yv.move rfl).yl ?_
        refine' QOps.and [_, _, _] _ (.tmp 27) rfl rfl rfl rfl rfl rfl (fun hg1 => ?_) ?_
        rotate_left
        · try replace hg1 := of_decide_eq_true hg1
          refine QOps.st rfl rfl (Yv.fieldAddr fld25_2 rfl).yl ?_
          refine QOps.st rfl rfl (Yv.loadB (i := 0) lay3 rfl rfl rfl rfl).yl ?_
          refine QOps.st rfl rfl (Yv.eqI rfl rfl).yl ?_
          exact QOps.nil rfl
        refine QOps.nil ?_
        refine Run.cond rfl (fun hc3 => ?_) (fun hc3 => ?_)
        · try replace hc3 := of_decide_eq_true hc3
          have h3 : (departs rs k) = true := hc3
          refine Run.ops ?_
          refine SOps.st rfl rfl (Yv.move rfl).yl ?_
          refine SOps.st rfl rfl (Yv.fieldAddr fld25_0 rfl).yl ?_
          refine SOps.st rfl rfl (Yv.loadB (i := 0) lay3 rfl rfl rfl rfl).yl ?_
          refine SOps.one rfl (One.buildSliceG (pv := [(0, _)]) (cs := [_]) (fun l => match l with | [a0_0] => [a0_0] | _ => []) rfl el41 (.cons rfl (.nil)) rfl rfl (by kernel_rfl) rfl rfl (fun b3 => ?_))
          refine SOps.one rfl (One.append (enc := intC) (l := o) (l2 := [(nth rs k).vessel]) (m' := (o ++ [(nth rs k).vessel]).length) (i := 2) (H' := fun A c => [_, _, _]) rfl el41 zero3 rfl (by decide) rfl rfl rfl (Rd.row (i := 0) rfl) (fun _ => rfl) (by simp) (by simp; omega) (by simp; omega) (fun _ _ => rfl) (fun A1 c1 => ?_))
          refine SOps.st rfl rfl (Yv.assign rfl).yl ?_
          refine SOps.nil ?_
          refine Run.quiet (by intro h; cases h) ?_
          refine QOps.st rfl rfl (Yv.succN rfl rfl (by omega)).yl ?_
          refine QOps.st rfl rfl (Yv.move rfl).yl ?_
          refine QOps.nil ?_
          refine ⟨(k + 1, _, _, _), ?_, ?_, (SubE.cons rfl (SubE.cons rfl (SubE.cons rfl (SubE.cons rfl (SubE.cons rfl (SubE.nil _)))))), (List.Sublist.cons _ (List.Sublist.cons _ (List.Sublist.refl _)))⟩
          · exact ⟨by omega, by simp; omega, by rw [wayTo, if_pos h3, ho]⟩
          · first | omega | (dsimp only; omega)
        · try replace hc3 := of_decide_eq_false hc3
          have h3 : (departs rs k) = false := hc3
          refine Run.skip ?_
          refine Run.quiet (by intro h; cases h) ?_
          refine QOps.st rfl rfl (Yv.succN rfl rfl (by omega)).yl ?_
          refine QOps.st rfl rfl (Yv.move rfl).yl ?_
          refine QOps.nil ?_
          refine ⟨(k + 1, o, A2, c2), ?_, ?_, (SubE.cons rfl (SubE.cons rfl (SubE.cons rfl (SubE.cons rfl (SubE.cons rfl (SubE.nil _)))))), (List.Sublist.cons _ (List.Sublist.refl _))⟩
          · exact ⟨by omega, by omega, by rw [wayTo, if_neg (by rw [h3]; simp), ho]⟩
          · first | omega | (dsimp only; omega)
      · try replace hc2 := of_decide_eq_false hc2
        refine Run.exit ?_
        refine Run.seq ?_
        refine Run.quiet (by intro h; cases h) ?_
        refine QOps.st rfl rfl (Yv.move rfl).yl ?_
        refine QOps.st rfl rfl (Yv.assign rfl).yl ?_
        refine QOps.st rfl rfl (Yv.assign rfl).yl ?_
        refine QOps.nil ?_
        refine Run.ret ?_
        obtain rfl : k = rs.length := by omega
        subst ho
        refine retQ.of (.inr rfl) rfl (.tmp rfl (.tmp rfl .nil)) (fun w' hw' => ?_)
        unfold wayOf; rw [if_pos hy, hy]; exact ⟨_, _, rfl, hw'.bel.below, hw'.ent _ (List.mem_of_getElem? (i := 0) rfl), fun g hg => (hw'.own _ (List.mem_of_getElem? (i := 0) rfl) g hg).elim id (by simp)⟩

theorem sUnderWay_spec {w : World} {A : Option Addr} {c : Nat} {rs : List Report}  (hs : Sl w 6 A rs.length c (rs.flatMap Report.enc)) (hl : rs.length ≤ 1048576) : Calls Tryz.prog 19 #[.slice A rs.length c] w (RetRow w 3 1 (wayOf rs).length ((wayOf rs).flatMap intC) (fun v => .tuple #[v, .bool (isFile rs)])) := by
  have hmx := Sl.lenle hs
  refine calls_of_run (vs := [_]) (L := [(0, _)]) (n := 43) (F := []) (H := []) Tryz.func19 rfl rfl rfl rfl (HOk.start _) ?_
  refine Run.seq ?_
  refine Run.quiet (by intro h; cases h) ?_
  refine QOps.st rfl rfl (Yv.assign rfl).yl ?_
  refine QOps.st rfl rfl (Yv.assign rfl).yl ?_
  refine QOps.nil ?_
  refine Run.seq ?_
  refine Run.ops ?_
  refine SOps.one rfl (One.buildSliceG (pv := []) (cs := []) (fun _ => []) rfl el41 .nil rfl rfl (by kernel_rfl) rfl rfl (fun b1 => ?_))
  refine SOps.st rfl rfl (Yv.assign rfl).yl ?_
  refine SOps.nil ?_
  refine Run.seq ?_
  refine Run.seq ?_
  refine Run.quiet (by intro h; cases h) ?_
  refine QOps.st rfl rfl (Yv.move rfl).yl ?_
  refine QOps.st rfl rfl (Yl.call callable48 (.cons rfl (.nil)) (fun w' hw' => l20File_spec ((Rd.arg hs) w' hw'))) ?_
  refine QOps.st rfl rfl (Yv.not rfl).yl ?_
  refine QOps.nil ?_
  refine Run.cond rfl (fun hc1 => ?_) (fun hc1 => ?_)
  · try replace hc1 := of_decide_eq_true hc1
    have hn : isFile rs = false := by simpa using hc1
    refine Run.seq ?_
    refine Run.quiet (by intro h; cases h) ?_
    refine QOps.st rfl rfl (Yv.move rfl).yl ?_
    refine QOps.st rfl rfl (Yv.assign rfl).yl ?_
    refine QOps.st rfl rfl (Yv.assign rfl).yl ?_
    refine QOps.nil ?_
    refine Run.ret ?_
    refine retQ.of (.inr rfl) rfl (.tmp rfl (.tmp rfl .nil)) (fun w' hw' => ?_)
    unfold wayOf; rw [if_neg (by rw [hn]; simp), hn]; exact ⟨_, _, rfl, hw'.bel.below, hw'.ent _ (List.mem_of_getElem? (i := 0) rfl), fun g hg => (hw'.own _ (List.mem_of_getElem? (i := 0) rfl) g hg).elim id (by simp)⟩
  · try replace hc1 := of_decide_eq_false hc1
    have hy : isFile rs = true := by simpa using hc1
    refine Run.skip ?_
    refine Run.seq ?_
    refine Run.seq ?_
    refine Run.quiet (by intro h; cases h) ?_
    refine QOps.st rfl rfl (Yv.assign rfl).yl ?_
    refine QOps.nil ?_
    refine Run.block ?_
    refine Run.loop (S := Nat × List Int × Option Addr × Nat) (fun s => match s with | (k, o, A2, c2) => k ≤ rs.length ∧ o.length ≤ k ∧ o = wayTo rs k) (fun s => match s with | (k, o, A2, c2) => [(0, .slice A rs.length c), (4, .slice A2 o.length c2), (5, .int .i64 (k : Int))]) (fun s => match s with | (k, o, A2, c2) => [.row A2 c2 3 1 o.length (o.flatMap intC)]) (fun s => match s with | (k, o, A2, c2) => rs.length - k) (0, [], some ⟨b1, 0, none⟩, 0) ?_ (SubE.cons rfl (SubE.cons rfl (SubE.cons rfl (SubE.nil _)))) (List.Sublist.refl _) ?_
    · exact ⟨by omega, by simp, rfl⟩
    · rintro ⟨k, o, A2, c2⟩ ⟨hk, hol, ho⟩
      show Run _ _ _ _ _ [(0, .slice A rs.length c), (4, .slice A2 o.length c2), (5, .int .i64 (k : Int))] [.row A2 c2 3 1 o.length (o.flatMap intC)] _
      refine Run.seq ?_
      refine Run.seq ?_
      refine Run.quiet (by intro h; cases h) ?_
      refine QOps.st rfl rfl (Yv.move rfl).yl ?_
      refine QOps.st rfl rfl (Yv.move rfl).yl ?_
      refine QOps.st rfl rfl (Yv.lenS el33s rfl).yl ?_
      refine QOps.st rfl rfl (Yv.lss rfl rfl).yl ?_
      refine QOps.nil ?_
      refine Run.cond rfl (fun hc2 => ?_) (fun hc2 => ?_)
      · try replace hc2 := of_decide_eq_true hc2
        refine Run.skip ?_
        refine Run.seq ?_
        refine Run.block ?_
        refine Run.seq ?_
        refine Run.quiet (by intro h; cases h) ?_
        refine QOps.st rfl rfl (Yv.move rfl).yl ?_
        refine QOps.st rfl rfl (Yv.move rfl).yl ?_
        refine QOps.st rfl rfl (Yv.indexAddr k el33 rfl rfl rfl (Rd.arg hs) (by omega)).yl ?_
        refine QOps.st rfl rfl (Yv.fieldAddr fld25_2 rfl).yl ?_
        refine QOps.st rfl rfl (Yv.loadF lay3 rfl Report.len (Rd.arg hs) (by first | omega | (simp; omega)) (by decide) rfl).yl ?_
        refine QOps.st rfl rfl (Yv.eqI rfl rfl).yl ?_
        refine QOps.st rfl rfl (Yv.move rfl).yl ?_
        refine' QOps.and [_, _, _, _, _, _, _, _, _] _ (.tmp 32) rfl rfl rfl rfl rfl rfl (fun hg1 => ?_) ?_
        rotate_left
        · try replace hg1 := of_decide_eq_true hg1
          refine QOps.st rfl rfl (Yv.move rfl).yl ?_
          refine QOps.st rfl rfl (Yv.move rfl).yl ?_
          refine QOps.st rfl rfl (Yv.move rfl).yl ?_
          refine QOps.st rfl rfl (Yv.indexAddr k el33 rfl rfl rfl (Rd.arg hs) (by omega)).yl ?_
          refine QOps.st rfl rfl (Yv.fieldAddr fld25_0 rfl).yl ?_
          refine QOps.st rfl rfl (Yv.loadF lay3 rfl Report.len (Rd.arg hs) (by first | omega | (simp; omega)) (by decide) rfl).yl ?_
          refine QOps.st rfl rfl (Yl.call callable51 (.cons rfl (.cons rfl (.nil))) (fun w' hw' => l20Last_spec ((Rd.arg hs) w' hw'))) ?_
          refine QOps.st rfl rfl (Yv.move rfl).yl ?_
          refine QOps.st rfl rfl (Yv.eqI rfl rfl).yl ?_
          exact QOps.nil rfl
        refine QOps.nil ?_
        refine Run.cond rfl (fun hc3 => ?_) (fun hc3 => ?_)
        · try replace hc3 := of_decide_eq_true hc3
          rw [Bool.and_comm] at hc3
          have h3 : (departs rs k) = true := hc3
          refine Run.ops ?_
          refine SOps.st rfl rfl (Yv.move rfl).yl ?_
          refine SOps.st rfl rfl (Yv.move rfl).yl ?_
          refine SOps.st rfl rfl (Yv.move rfl).yl ?_
          refine SOps.st rfl rfl (Yv.indexAddr k el33 rfl rfl rfl (Rd.arg hs) (by omega)).yl ?_
          refine SOps.st rfl rfl (Yv.fieldAddr fld25_0 rfl).yl ?_
          refine SOps.st rfl rfl (Yv.loadF lay3 rfl Report.len (Rd.arg hs) (by first | omega | (simp; omega)) (by decide) rfl).yl ?_
          refine SOps.one rfl (One.buildSliceG (pv := [(0, _)]) (cs := [_]) (fun l => match l with | [a0_0] => [a0_0] | _ => []) rfl el41 (.cons rfl (.nil)) rfl rfl (by kernel_rfl) rfl rfl (fun b2 => ?_))
          refine SOps.one rfl (One.append (enc := intC) (l := o) (l2 := [(nth rs k).vessel]) (m' := (o ++ [(nth rs k).vessel]).length) (i := 1) (H' := fun A c => [_, _]) rfl el41 zero3 rfl (by decide) rfl rfl rfl (Rd.row (i := 0) rfl) (fun _ => rfl) (by simp) (by simp; omega) (by simp; omega) (fun _ _ => rfl) (fun A1 c1 => ?_))
          refine SOps.st rfl rfl (Yv.assign rfl).yl ?_
          refine SOps.nil ?_
          refine Run.quiet (by intro h; cases h) ?_
          refine QOps.st rfl rfl (Yv.move rfl).yl ?_
          refine QOps.st rfl rfl (Yv.succN rfl rfl (by omega)).yl ?_
          refine QOps.st rfl rfl (Yv.assign rfl).yl ?_
          refine QOps.nil ?_
          refine ⟨(k + 1, _, _, _), ?_, ?_, (SubE.cons rfl (SubE.cons rfl (SubE.cons rfl (SubE.nil _)))), (List.Sublist.cons _ (List.Sublist.refl _))⟩
          · exact ⟨by omega, by simp; omega, by rw [wayTo, if_pos h3, ho]⟩
          · first | omega | (dsimp only; omega)
        · try replace hc3 := of_decide_eq_false hc3
          rw [Bool.and_comm] at hc3
          have h3 : (departs rs k) = false := hc3
          refine Run.skip ?_
          refine Run.quiet (by intro h; cases h) ?_
          refine QOps.st rfl rfl (Yv.move rfl).yl ?_
          refine QOps.st rfl rfl (Yv.succN rfl rfl (by omega)).yl ?_
          refine QOps.st rfl rfl (Yv.assign rfl).yl ?_
          refine QOps.nil ?_
          refine ⟨(k + 1, o, A2, c2), ?_, ?_, (SubE.cons rfl (SubE.cons rfl (SubE.cons rfl (SubE.nil _)))), (List.Sublist.refl _)⟩
          · exact ⟨by omega, by omega, by rw [wayTo, if_neg (by rw [h3]; simp), ho]⟩
          · first | omega | (dsimp only; omega)
      · try replace hc2 := of_decide_eq_false hc2
        refine Run.exit ?_
        refine Run.seq ?_
        refine Run.quiet (by intro h; cases h) ?_
        refine QOps.st rfl rfl (Yv.move rfl).yl ?_
        refine QOps.st rfl rfl (Yv.assign rfl).yl ?_
        refine QOps.st rfl rfl (Yv.assign rfl).yl ?_
        refine QOps.nil ?_
        refine Run.ret ?_
        obtain rfl : k = rs.length := by omega
        subst ho
        refine retQ.of (.inr rfl) rfl (.tmp rfl (.tmp rfl .nil)) (fun w' hw' => ?_)
        unfold wayOf; rw [if_pos hy, hy]; exact ⟨_, _, rfl, hw'.bel.below, hw'.ent _ (List.mem_of_getElem? (i := 0) rfl), fun g hg => (hw'.own _ (List.mem_of_getElem? (i := 0) rfl) g hg).elim id (by simp)⟩

theorem before_trans {a b c : Report} (h1 : beforeR a b = true) (h2 : beforeR b c = true) : beforeR a c = true := by
  simp only [beforeR, Bool.or_eq_true, Bool.and_eq_true, decide_eq_true_eq] at *
  omega
theorem file_sorted {rs : List Report} (hf : isFile rs = true) : ∀ {j i : Nat}, i < j → j < rs.length → beforeR (nth rs i) (nth rs j) = true
  | 0, i, h, _ => by omega
  | j + 1, i, h, hl => by
    have hb := (file_parts hf).2 (j + 1) hl
    simp only [badR, Bool.or_eq_false_iff, Bool.and_eq_false_iff, Bool.not_eq_false', decide_eq_false_iff_not, Nat.add_sub_cancel] at hb
    have h1 : beforeR (nth rs j) (nth rs (j + 1)) = true := by
      rcases hb.2 with h2 | h2
      · omega
      · exact h2
    rcases Nat.lt_or_ge i j with h2 | h2
    · exact before_trans (file_sorted hf h2 (by omega)) h1
    · have : i = j := by omega
      rw [this]; exact h1
theorem firstTo_lt {n k : Nat} {p : Nat → Bool} (h : firstTo n p = some k) : k < n ∧ p k = true ∧ ∀ i, i < k → p i = false := by
  induction n with
  | zero => simp [firstTo] at h
  | succ n ih =>
    rw [firstTo_succ] at h
    cases hf : firstTo n p with
    | some j =>
      rw [hf] at h
      obtain rfl : j = k := Option.some.inj h
      have := ih hf
      exact ⟨by omega, this.2.1, this.2.2⟩
    | none =>
      rw [hf] at h
      change (if p n = true then some n else none) = some k at h
      split at h
      · rename_i hp
        simp only [Option.some.injEq] at h
        subst h
        refine ⟨by omega, hp, fun i hi => ?_⟩
        by_cases hpi : p i = true
        · simp only [firstTo, List.find?_eq_none, List.mem_range] at hf
          exact absurd hpi (hf i hi)
        · simpa using hpi
      · cases h
/-- Where a report belongs in a list. -/
def posR (rs : List Report) (r : Report) : Nat := match firstTo rs.length (fun k => !beforeR (nth rs k) r) with | some k => k | none => rs.length
theorem posR_eq {rs : List Report} {r : Report} {k : Nat} (hk : k ≤ rs.length) (hall : ∀ i, i < k → beforeR (nth rs i) r = true) (hstop : (decide ((k : Int) < (rs.length : Int)) && beforeR (nth rs k) r) = false) : posR rs r = k := by
  unfold posR
  rcases Nat.lt_or_ge k rs.length with h | h
  · have h2 : beforeR (nth rs k) r = false := by
      rw [decide_eq_true (by omega)] at hstop
      simpa using hstop
    rw [firstTo_some (k := k) h (by rw [h2]; rfl) (fun i hi => by rw [hall i hi]; rfl)]
  · rw [firstTo_none (fun i hi => by rw [hall i (by omega)]; rfl)]
    exact (show rs.length = k by omega)
theorem posR_le {rs : List Report} {r : Report} : posR rs r ≤ rs.length := by
  unfold posR
  cases h : firstTo rs.length (fun k => !beforeR (nth rs k) r) with
  | none => exact Nat.le_refl _
  | some k => have := (firstTo_lt h).1; exact Nat.le_of_lt this
def foundR (rs : List Report) (r : Report) : Bool := decide ((posR rs r : Int) < (rs.length : Int)) && !beforeR r (nth rs (posR rs r))
def putR (rs : List Report) (r : Report) : List Report := rs.take (posR rs r) ++ [r] ++ rs.drop (posR rs r)
def fileOf (rs : List Report) (r : Report) : List Report × Bool × Bool :=
  if (isFile rs && oneR r) = true then (if foundR rs r = true then (rs, false, true) else (if isFile (putR rs r) = true then (putR rs r, true, true) else ([], false, false))) else ([], false, false)
theorem putR_len {rs : List Report} {r : Report} : (putR rs r).length = rs.length + 1 := by
  have := posR_le (rs := rs) (r := r)
  simp [putR]
  omega
theorem fileOf_len {rs : List Report} {r : Report} : (fileOf rs r).1.length ≤ 12 := by
  unfold fileOf
  split
  · rename_i h
    simp only [Bool.and_eq_true] at h
    split
    · exact (file_parts h.1).1
    · split
      · rename_i h2
        exact (file_parts h2).1
      · simp
  · simp
theorem fileOf_no {rs : List Report} {r : Report} (h : (isFile rs && oneR r) = false) : fileOf rs r = ([], false, false) := by unfold fileOf; rw [if_neg (by rw [h]; simp)]
theorem fileOf_found {rs : List Report} {r : Report} (h : (isFile rs && oneR r) = true) (hf : foundR rs r = true) : fileOf rs r = (rs, false, true) := by unfold fileOf; rw [if_pos h, if_pos hf]
theorem fileOf_bad {rs : List Report} {r : Report} (h : (isFile rs && oneR r) = true) (hf : foundR rs r = false) (hp : isFile (putR rs r) = false) : fileOf rs r = ([], false, false) := by unfold fileOf; rw [if_pos h, if_neg (by rw [hf]; simp), if_neg (by rw [hp]; simp)]
theorem fileOf_put {rs : List Report} {r : Report} (h : (isFile rs && oneR r) = true) (hf : foundR rs r = false) (hp : isFile (putR rs r) = true) : fileOf rs r = (putR rs r, true, true) := by unfold fileOf; rw [if_pos h, if_neg (by rw [hf]; simp), if_pos hp]
theorem l20File_spec' {w : World} {A : Option Addr} {c n : Nat} {rs : List Report} (hn : rs.length = n) (hs : Sl w 6 A n c (rs.flatMap Report.enc)) :
    Calls Tryz.prog 48 #[.slice A n c] w (RetB w (.bool (isFile rs))) := by subst hn; exact l20File_spec hs
theorem IsFile_spec' {w : World} {A : Option Addr} {c n : Nat} {rs : List Report} (hn : rs.length = n) (hs : Sl w 6 A n c (rs.flatMap Report.enc)) :
    Calls Tryz.prog 16 #[.slice A n c] w (RetB w (.bool (isFile rs))) := by subst hn; exact IsFile_spec hs
theorem sFileReport_spec {w : World} {A : Option Addr} {c : Nat} {rs : List Report} {r : Report} (hs : Sl w 6 A rs.length c (rs.flatMap Report.enc)) (hl : rs.length ≤ 2000000) : Calls Tryz.prog 14 #[.slice A rs.length c, .agg r.enc.toArray] w (RetRow w 25 6 (fileOf rs r).1.length ((fileOf rs r).1.flatMap Report.enc) (fun s => .tuple #[s, .bool (fileOf rs r).2.1, .bool (fileOf rs r).2.2])) := by
  have hmx := Sl.lenle hs
  have hcap := hs.cap
  refine calls_of_run (vs := [_, _]) (L := [(0, _), (1, _)]) (n := 68) (F := []) (H := []) Tryz.func14 rfl rfl rfl rfl (HOk.start _) ?_
  refine Run.seq ?_
  refine Run.ops ?_
  refine SOps.one rfl (One.box (cs := [_, _, _, _, _, _]) rfl rfl rfl (fun b1 => ?_))
  refine SOps.st rfl rfl (Yv.assign rfl).yl ?_
  refine SOps.st rfl rfl (Yv.assign rfl).yl ?_
  refine SOps.st rfl rfl (Yv.assign rfl).yl ?_
  refine SOps.nil ?_
  refine Run.seq ?_
  refine Run.seq ?_
  refine Run.quiet (by intro h; cases h) ?_
  refine QOps.st rfl rfl (Yv.move rfl).yl ?_
  refine QOps.st rfl rfl (Yl.call callable48 (.cons rfl (.nil)) (fun w' hw' => l20File_spec ((Rd.arg hs) w' hw'))) ?_
  refine QOps.st rfl rfl (Yv.not rfl).yl ?_
  refine QOps.st rfl rfl (Yv.move rfl).yl ?_
  refine' QOps.or [_, _, _] _ (.tmp 15) rfl rfl rfl rfl rfl rfl (fun hg1 => ?_) ?_
  rotate_left
  · try replace hg1 := of_decide_eq_false hg1
    refine QOps.st rfl rfl (Yv.loadBs (i := 0) lay25 rfl rfl rfl rfl).yl ?_
    refine QOps.st rfl rfl (Yl.call callable24 (.cons rfl (.nil)) (fun w' hw' => l20One_spec)) ?_
    refine QOps.st rfl rfl (Yv.not rfl).yl ?_
    exact QOps.nil rfl
  refine QOps.nil ?_
  refine Run.cond rfl (fun hc1 => ?_) (fun hc1 => ?_)
  · try replace hc1 := of_decide_eq_true hc1
    have hn : (isFile rs && oneR r) = false := by revert hc1; cases isFile rs <;> cases oneR r <;> simp
    refine Run.seq ?_
    refine Run.ops ?_
    refine SOps.one rfl (One.buildSliceG (pv := []) (cs := []) (fun _ => []) rfl el33 .nil rfl rfl (by kernel_rfl) rfl rfl (fun b2 => ?_))
    refine SOps.st rfl rfl (Yv.assign rfl).yl ?_
    refine SOps.st rfl rfl (Yv.assign rfl).yl ?_
    refine SOps.st rfl rfl (Yv.assign rfl).yl ?_
    refine SOps.nil ?_
    refine Run.ret ?_
    refine retQ.of (.inr rfl) rfl (.tmp rfl (.tmp rfl (.tmp rfl .nil))) (fun w' hw' => ?_)
    rw [fileOf_no hn]; exact ⟨_, _, rfl, hw'.bel.below, hw'.ent _ (List.mem_of_getElem? (i := 0) rfl), fun g hg => (hw'.own _ (List.mem_of_getElem? (i := 0) rfl) g hg).elim id (by simp)⟩
  · try replace hc1 := of_decide_eq_false hc1
    have hy : (isFile rs && oneR r) = true := by revert hc1; cases isFile rs <;> cases oneR r <;> simp
    refine Run.skip ?_
    refine Run.seq ?_
    refine Run.quiet (by intro h; cases h) ?_
    refine QOps.st rfl rfl (Yv.assign rfl).yl ?_
    refine QOps.nil ?_
    refine Run.seq ?_
    refine Run.block ?_
    refine Run.loop (S := Nat) (fun s => match s with | k => k ≤ rs.length ∧ ∀ i, i < k → beforeR (nth rs i) r = true) (fun s => match s with | k => [(0, .slice A rs.length c), (3, .pointer (some ⟨b1, 0, none⟩)), (7, .int .i64 (k : Int))]) (fun s => match s with | k => [.blk b1 25 (Report.enc r)]) (fun s => match s with | k => rs.length - k) 0 ?_ (SubE.cons rfl (SubE.cons rfl (SubE.cons rfl (SubE.nil _)))) (List.Sublist.refl _) ?_
    · exact ⟨by omega, fun i hi => by omega⟩
    · rintro k ⟨hk, hall⟩
      show Run _ _ _ _ _ [(0, .slice A rs.length c), (3, .pointer (some ⟨b1, 0, none⟩)), (7, .int .i64 (k : Int))] [.blk b1 25 (Report.enc r)] _
      refine Run.seq ?_
      refine Run.seq ?_
      refine Run.quiet (fun _ => ⟨by kernel_rfl, by kernel_rfl⟩) ?_
      refine QOps.st rfl rfl (Yv.move rfl).yl ?_
      refine QOps.st rfl rfl (Yv.move rfl).yl ?_
      refine QOps.st rfl rfl (Yv.lenS el33s rfl).yl ?_
      refine QOps.st rfl rfl (Yv.lss rfl rfl).yl ?_
      refine QOps.st rfl rfl (Yv.move rfl).yl ?_
      refine' QOps.and [_, _, _, _, _, _] _ (.tmp 28) rfl rfl rfl rfl rfl rfl (fun hg2 => ?_) ?_
      rotate_left
      · try replace hg2 := of_decide_eq_true hg2
        refine QOps.st rfl rfl (Yv.move rfl).yl ?_
        refine QOps.st rfl rfl (Yv.move rfl).yl ?_
        refine QOps.st rfl rfl (Yv.indexAddr k el33 rfl rfl rfl (Rd.arg hs) (by omega)).yl ?_
        refine QOps.st rfl rfl (Yv.loadEs lay25 rfl Report.len (Rd.arg hs) (by first | omega | (simp; omega)) (by decide)).yl ?_
        refine QOps.st rfl rfl (Yv.loadBs (i := 0) lay25 rfl rfl rfl rfl).yl ?_
        refine QOps.st rfl rfl (Yl.call callable49 (.cons rfl (.cons rfl (.nil))) (fun w' hw' => l20Before_spec)) ?_
        exact QOps.nil rfl
      refine QOps.nil ?_
      refine Run.cond rfl (fun hc2 => ?_) (fun hc2 => ?_)
      · try replace hc2 := of_decide_eq_true hc2
        refine Run.skip ?_
        refine Run.block ?_
        refine Run.quiet (by intro h; cases h) ?_
        refine QOps.st rfl rfl (Yv.move rfl).yl ?_
        refine QOps.st rfl rfl (Yv.succN rfl rfl (by omega)).yl ?_
        refine QOps.st rfl rfl (Yv.assign rfl).yl ?_
        refine QOps.nil ?_
        rw [Bool.and_eq_true, decide_eq_true_eq] at hc2
        refine ⟨k + 1, ?_, ?_, (SubE.cons rfl (SubE.cons rfl (SubE.cons rfl (SubE.nil _)))), (List.Sublist.refl _)⟩
        · exact ⟨by omega, all_succ hall hc2.2⟩
        · (dsimp only; omega)
      · try replace hc2 := of_decide_eq_false hc2
        have hpos : posR rs r = k := posR_eq hk hall hc2
        refine Run.exit ?_
        refine Run.seq ?_
        refine Run.ops ?_
        refine SOps.one rfl (One.buildSliceG (pv := []) (cs := []) (fun _ => []) rfl el33 .nil rfl rfl (by kernel_rfl) rfl rfl (fun b3 => ?_))
        refine SOps.st rfl rfl (Yv.move rfl).yl ?_
        refine SOps.st rfl rfl (Yv.move rfl).yl ?_
        refine SOps.st rfl rfl (Yv.cutTo0 k el33 rfl rfl rfl (by omega)).yl ?_
        refine SOps.one rfl (One.append (enc := Report.enc) (l := ([] : List Report)) (l2 := (rs.take k)) (m' := k) (i := 0) (H' := fun A c => [_, _]) rfl el33 zero25 rfl (by decide) rfl rfl rfl (Rd.cut0 Report.len (Rd.arg hs) (by omega)) (fun _ => rfl) (by simp) (by omega) (by omega) (fun _ _ => rfl) (fun A1 c1 => ?_))
        refine SOps.st rfl rfl (Yv.assign rfl).yl ?_
        refine SOps.nil ?_
        refine Run.seq ?_
        refine Run.seq ?_
        refine Run.quiet (fun _ => ⟨by kernel_rfl, by kernel_rfl⟩) ?_
        refine QOps.st rfl rfl (Yv.move rfl).yl ?_
        refine QOps.st rfl rfl (Yv.move rfl).yl ?_
        refine QOps.st rfl rfl (Yv.lenS el33s rfl).yl ?_
        refine QOps.st rfl rfl (Yv.lss rfl rfl).yl ?_
        refine QOps.st rfl rfl (Yv.move rfl).yl ?_
        refine' QOps.and [_, _, _, _, _, _, _] _ (.tmp 48) rfl rfl rfl rfl rfl rfl (fun hg3 => ?_) ?_
        rotate_left
        · try replace hg3 := of_decide_eq_true hg3
          refine QOps.st rfl rfl (Yv.loadBs (i := 1) lay25 rfl rfl rfl rfl).yl ?_
          refine QOps.st rfl rfl (Yv.move rfl).yl ?_
          refine QOps.st rfl rfl (Yv.move rfl).yl ?_
          refine QOps.st rfl rfl (Yv.indexAddr k el33 rfl rfl rfl (Rd.arg hs) (by omega)).yl ?_
          refine QOps.st rfl rfl (Yv.loadEs lay25 rfl Report.len (Rd.arg hs) (by first | omega | (simp; omega)) (by decide)).yl ?_
          refine QOps.st rfl rfl (Yl.call callable49 (.cons rfl (.cons rfl (.nil))) (fun w' hw' => l20Before_spec)) ?_
          refine QOps.st rfl rfl (Yv.not rfl).yl ?_
          exact QOps.nil rfl
        refine QOps.nil ?_
        refine Run.cond rfl (fun hc3 => ?_) (fun hc3 => ?_)
        · try replace hc3 := of_decide_eq_true hc3
          have hfd : foundR rs r = true := by unfold foundR; rw [hpos]; exact hc3
          refine Run.seq ?_
          refine Run.ops ?_
          refine SOps.st rfl rfl (Yv.move rfl).yl ?_
          refine SOps.st rfl rfl (Yv.move rfl).yl ?_
          refine SOps.st rfl rfl (Yv.move rfl).yl ?_
          refine SOps.st rfl rfl (Yv.cutFrom k el33 rfl rfl rfl (by omega)).yl ?_
          refine SOps.one rfl (One.append (enc := Report.enc) (l := (rs.take k)) (l2 := (rs.drop k)) (m' := rs.length) (i := 0) (H' := fun A c => [_, _]) rfl el33 zero25 rfl (by decide) rfl rfl rfl (Rd.cutF Report.len (Rd.arg hs) rfl (by omega)) (fun _ => rfl) (by omega) (by omega) (by omega) (fun _ _ => rfl) (fun A2 c2 => ?_))
          refine SOps.st rfl rfl (Yv.assign rfl).yl ?_
          refine SOps.st rfl rfl (Yv.assign rfl).yl ?_
          refine SOps.st rfl rfl (Yv.assign rfl).yl ?_
          refine SOps.nil ?_
          refine Run.ret ?_
          rw [List.take_append_drop]
          refine retQ.of (.inr rfl) rfl (.tmp rfl (.tmp rfl (.tmp rfl .nil))) (fun w' hw' => ?_)
          rw [fileOf_found hy hfd]; exact ⟨_, _, rfl, hw'.bel.below, hw'.ent _ (List.mem_of_getElem? (i := 0) rfl), fun g hg => (hw'.own _ (List.mem_of_getElem? (i := 0) rfl) g hg).elim id (by simp)⟩
        · try replace hc3 := of_decide_eq_false hc3
          have hfd : foundR rs r = false := by unfold foundR; rw [hpos]; exact hc3
          refine Run.skip ?_
          refine Run.seq ?_
          refine Run.draws (fun H => (H).eraseIdx 0) (m := 9) (listed := #[false, false, false, false, false, false, false, false, false]) (by kernel_rfl) rfl rfl ?_
          refine DOps.take (listed' := #[true, false, false, false, false, false, false, false, false]) 0 rfl (by kernel_rfl) rfl (List.Sublist.cons _ (List.Sublist.refl _)) rfl rfl (Yv.move rfl) ?_
          refine DOps.take (listed' := #[true, true, false, false, false, false, false, false, false]) 1 rfl (by kernel_rfl) rfl (List.Sublist.cons _ (List.Sublist.refl _)) rfl rfl (Yv.loadBs (i := 0) lay25 rfl rfl rfl rfl) ?_
          refine DOps.take (listed' := #[true, true, false, false, true, false, false, false, false]) 4 rfl (by kernel_rfl) rfl (List.Sublist.cons _ (List.Sublist.refl _)) rfl rfl (Yv.move rfl) ?_
          refine DOps.take (listed' := #[true, true, false, false, true, true, false, false, false]) 5 rfl (by kernel_rfl) rfl (List.Sublist.cons _ (List.Sublist.refl _)) rfl rfl (Yv.move rfl) ?_
          refine DOps.take (listed' := #[true, true, false, false, true, true, true, false, false]) 6 rfl (by kernel_rfl) rfl (List.Sublist.cons _ (List.Sublist.refl _)) rfl rfl (Yv.cutFrom k el33 rfl rfl rfl (by omega)) ?_
          refine DOps.only (listed' := #[true, true, true, false, true, true, true, false, false]) 2 rfl (by kernel_rfl) rfl rfl ?_
          refine One.buildSliceG (pv := [(0, _)]) (cs := [_, _, _, _, _, _]) (fun l => match l with | [.agg ⟨[a0_0, a0_1, a0_2, a0_3, a0_4, a0_5]⟩] => [a0_0, a0_1, a0_2, a0_3, a0_4, a0_5] | _ => []) rfl el33 (.cons rfl (.nil)) rfl rfl (by kernel_rfl) rfl rfl (fun b4 => ?_)
          refine ⟨(List.Sublist.cons _ (List.Sublist.cons _ (List.Sublist.refl _))), ?_⟩
          refine DOps.only (listed' := #[true, true, true, true, true, true, true, false, false]) 3 rfl (by kernel_rfl) rfl rfl ?_
          refine One.append (enc := Report.enc) (l := (rs.take k)) (l2 := [r]) (m' := (k + 1)) (i := 1) (H' := fun A c => [_, _, _]) rfl el33 zero25 rfl (by decide) rfl rfl rfl (Rd.row (i := 0) rfl) (fun _ => rfl) rfl (by omega) (by omega) (fun _ _ => rfl) (fun A3 c3 => ?_)
          refine ⟨(List.Sublist.cons _ (List.Sublist.cons _ (List.Sublist.refl _))), ?_⟩
          refine DOps.only (listed' := #[true, true, true, true, true, true, true, true, false]) 7 rfl (by kernel_rfl) rfl rfl ?_
          refine One.append (enc := Report.enc) (l := (rs.take k ++ [r])) (l2 := (rs.drop k)) (m' := (rs.length + 1)) (i := 1) (H' := fun A c => [_, _, _]) rfl el33 zero25 rfl (by decide) rfl rfl rfl (Rd.cutF Report.len (Rd.arg hs) rfl (by omega)) (fun _ => rfl) (by omega) (by omega) (by omega) (fun _ _ => rfl) (fun A4 c4 => ?_)
          refine ⟨(List.Sublist.cons _ (List.Sublist.cons _ (List.Sublist.refl _))), ?_⟩
          refine DOps.take (listed' := #[true, true, true, true, true, true, true, true, true]) 8 rfl (by kernel_rfl) rfl (List.Sublist.cons _ (List.Sublist.cons _ (List.Sublist.refl _))) rfl rfl (Yv.assign rfl) ?_
          refine DOps.done (by kernel_rfl) ?_
          refine Run.seq ?_
          refine Run.seq ?_
          refine Run.quiet (by intro h; cases h) ?_
          refine QOps.st rfl rfl (Yv.move rfl).yl ?_
          refine QOps.st rfl rfl (Yl.call callable48 (.cons rfl (.nil)) (fun w' hw' => l20File_spec' (rs := rs.take k ++ [r] ++ rs.drop k) (by simp; omega) (Rd.row (i := 1) rfl w' hw'))) ?_
          refine QOps.st rfl rfl (Yv.not rfl).yl ?_
          refine QOps.nil ?_
          refine Run.cond rfl (fun hc4 => ?_) (fun hc4 => ?_)
          · try replace hc4 := of_decide_eq_true hc4
            have hp : isFile (putR rs r) = false := by unfold putR; rw [hpos]; simpa using hc4
            refine Run.seq ?_
            refine Run.ops ?_
            refine SOps.one rfl (One.buildSliceG (pv := []) (cs := []) (fun _ => []) rfl el33 .nil rfl rfl (by kernel_rfl) rfl rfl (fun b5 => ?_))
            refine SOps.st rfl rfl (Yv.assign rfl).yl ?_
            refine SOps.st rfl rfl (Yv.assign rfl).yl ?_
            refine SOps.st rfl rfl (Yv.assign rfl).yl ?_
            refine SOps.nil ?_
            refine Run.ret ?_
            refine retQ.of (.inr rfl) rfl (.tmp rfl (.tmp rfl (.tmp rfl .nil))) (fun w' hw' => ?_)
            rw [fileOf_bad hy hfd hp]; exact ⟨_, _, rfl, hw'.bel.below, hw'.ent _ (List.mem_of_getElem? (i := 0) rfl), fun g hg => (hw'.own _ (List.mem_of_getElem? (i := 0) rfl) g hg).elim id (by simp)⟩
          · try replace hc4 := of_decide_eq_false hc4
            have hp : isFile (putR rs r) = true := by unfold putR; rw [hpos]; simpa using hc4
            refine Run.skip ?_
            refine Run.seq ?_
            refine Run.quiet (by intro h; cases h) ?_
            refine QOps.st rfl rfl (Yv.move rfl).yl ?_
            refine QOps.st rfl rfl (Yv.assign rfl).yl ?_
            refine QOps.st rfl rfl (Yv.assign rfl).yl ?_
            refine QOps.st rfl rfl (Yv.assign rfl).yl ?_
            refine QOps.nil ?_
            refine Run.ret ?_
            refine retQ.of (.inr rfl) rfl (.tmp rfl (.tmp rfl (.tmp rfl .nil))) (fun w' hw' => ?_)
            rw [fileOf_put hy hfd hp, show (putR rs r, true, true).1.length = rs.length + 1 from putR_len]; unfold putR; rw [hpos]; exact ⟨_, _, rfl, hw'.bel.below, hw'.ent _ (List.mem_of_getElem? (i := 1) rfl), fun g hg => (hw'.own _ (List.mem_of_getElem? (i := 1) rfl) g hg).elim id (by simp)⟩
theorem cmpR_lt {a b : Report} : decide (cmpR a b < 0) = beforeR a b := by
  have h := cmpR_ge (a := a) (b := b)
  by_cases h2 : 0 ≤ cmpR a b
  · rw [decide_eq_true h2] at h
    rw [decide_eq_false (by omega)]
    cases hb : beforeR a b <;> rw [hb] at h <;> simp_all
  · rw [decide_eq_false h2] at h
    rw [decide_eq_true (by omega)]
    cases hb : beforeR a b <;> rw [hb] at h <;> simp_all
theorem cmpR_zero {a b : Report} (h : beforeR a b = false) : decide (cmpR a b = 0) = !beforeR b a := by
  simp only [beforeR, Bool.or_eq_false_iff, Bool.and_eq_false_iff, decide_eq_false_iff_not] at h
  unfold cmpR beforeR
  rcases Int.lt_trichotomy a.vessel b.vessel with h1 | h1 | h1
  · omega
  · rcases Int.lt_trichotomy a.number b.number with h2 | h2 | h2
    · omega
    · simp [orI, cmpI_self, h1, h2]
    · simp [orI, cmpI_self, cmpI_gt h2, h1, h2]
  · simp [orI, cmpI_gt h1, h1]
theorem half (n : Nat) : Int.fdiv (n : Int) (2 ^ (min (Int.toNat 1) (IntKind.bits .u64))) = ((n / 2 : Nat) : Int) := by
  rw [show (2 : Int) ^ (min (Int.toNat 1) (IntKind.bits .u64)) = 2 from by decide, Int.fdiv_eq_ediv_of_nonneg _ (by omega)]
  omega
theorem search_spec {w : World} {A : Option Addr} {c : Nat} {rs : List Report} {r : Report} (hs : Sl w 6 A rs.length c (rs.flatMap Report.enc)) (hl : rs.length ≤ 1048576) (hm : ∀ x y, x ≤ y → y < rs.length → beforeR (nth rs y) r = true → beforeR (nth rs x) r = true) :
    Calls Tryz.prog 45 #[.slice A rs.length c, .agg r.enc.toArray, .func (.func 46) #[] #[]] w (RetB w (.tuple #[.int .i64 (posR rs r), .bool (foundR rs r)])) := by
  refine calls_of_run (vs := [_, _, _]) (L := [(0, _), (1, _), (2, _)]) (n := 49) (F := []) (H := []) Tryz.func45 rfl rfl rfl rfl (HOk.start _) ?_
  refine Run.seq ?_
  refine Run.ops ?_
  refine SOps.one rfl (One.box (cs := [_, _, _, _, _, _]) rfl rfl rfl (fun b1 => ?_))
  refine SOps.st rfl rfl (Yv.assign rfl).yl ?_
  refine SOps.st rfl rfl (Yv.assign rfl).yl ?_
  refine SOps.nil ?_
  refine Run.seq ?_
  refine Run.quiet (by intro h; cases h) ?_
  refine QOps.st rfl rfl (Yv.move rfl).yl ?_
  refine QOps.st rfl rfl (Yv.lenS el33s rfl).yl ?_
  refine QOps.st rfl rfl (Yv.assign rfl).yl ?_
  refine QOps.nil ?_
  refine Run.seq ?_
  refine Run.quiet (by intro h; cases h) ?_
  refine QOps.st rfl rfl (Yv.move rfl).yl ?_
  refine QOps.st rfl rfl (Yv.assign rfl).yl ?_
  refine QOps.st rfl rfl (Yv.assign rfl).yl ?_
  refine QOps.nil ?_
  refine Run.seq ?_
  refine Run.block ?_
  refine Run.loop (S := Nat × Nat) (fun s => match s with | (i, j) => i ≤ j ∧ j ≤ rs.length ∧ (∀ x, x < i → beforeR (nth rs x) r = true) ∧ ∀ x, j ≤ x → x < rs.length → beforeR (nth rs x) r = false) (fun s => match s with | (i, j) => [(0, .slice A rs.length c), (2, .func (.func 46) #[] #[]), (4, .pointer (some ⟨b1, 0, none⟩)), (8, .int .i64 (rs.length : Int)), (9, .int .i64 (i : Int)), (10, .int .i64 (j : Int))]) (fun s => match s with | (i, j) => [.blk b1 25 (Report.enc r)]) (fun s => match s with | (i, j) => j - i) (0, rs.length) ?_ (SubE.cons rfl (SubE.cons rfl (SubE.cons rfl (SubE.cons rfl (SubE.cons rfl (SubE.cons rfl (SubE.nil _))))))) (List.Sublist.refl _) ?_
  · exact ⟨by omega, by omega, fun x hx => by omega, fun x h1 h2 => by omega⟩
  · rintro ⟨i, j⟩ ⟨hij, hjn, hlo, hhi⟩
    show Run _ _ _ _ _ [(0, .slice A rs.length c), (2, .func (.func 46) #[] #[]), (4, .pointer (some ⟨b1, 0, none⟩)), (8, .int .i64 (rs.length : Int)), (9, .int .i64 (i : Int)), (10, .int .i64 (j : Int))] [.blk b1 25 (Report.enc r)] _
    refine Run.seq ?_
    refine Run.seq ?_
    refine Run.quiet (by intro h; cases h) ?_
    refine QOps.st rfl rfl (Yv.move rfl).yl ?_
    refine QOps.st rfl rfl (Yv.move rfl).yl ?_
    refine QOps.st rfl rfl (Yv.lss rfl rfl).yl ?_
    refine QOps.nil ?_
    refine Run.cond rfl (fun hc1 => ?_) (fun hc1 => ?_)
    · try replace hc1 := of_decide_eq_true hc1
      refine Run.skip ?_
      refine Run.block ?_
      refine Run.seq ?_
      refine Run.quiet (by intro h; cases h) ?_
      refine QOps.st rfl rfl (Yv.move rfl).yl ?_
      refine QOps.st rfl rfl (Yv.move rfl).yl ?_
      refine QOps.st rfl rfl (Yv.add rfl rfl (by omega)).yl ?_
      refine QOps.st rfl rfl (Yv.convT (j := ((i + j : Nat) : Int)) int3 int93 rfl (by rw [IntKind.wrap_u64]; omega)).yl ?_
      refine QOps.st rfl rfl (Yv.shr rfl rfl (by decide)).yl ?_
      refine QOps.st rfl rfl (Yv.convT (j := (((i + j) / 2 : Nat) : Int)) int93 int3 rfl (by rw [half, IntKind.wrap_i64]; omega)).yl ?_
      refine QOps.st rfl rfl (Yv.assign rfl).yl ?_
      refine QOps.nil ?_
      refine Run.seq ?_
      refine Run.quiet (fun _ => ⟨by kernel_rfl, by kernel_rfl⟩) ?_
      refine QOps.st rfl rfl (Yv.move rfl).yl ?_
      refine QOps.st rfl rfl (Yv.move rfl).yl ?_
      refine QOps.st rfl rfl (Yv.move rfl).yl ?_
      refine QOps.st rfl rfl (Yv.indexAddr ((i + j) / 2) el33 rfl rfl rfl (Rd.arg hs) (by omega)).yl ?_
      refine QOps.st rfl rfl (Yv.loadEs lay25 rfl Report.len (Rd.arg hs) (by first | omega | (simp; omega)) (by decide)).yl ?_
      refine QOps.st rfl rfl (Yv.loadBs (i := 0) lay25 rfl rfl rfl rfl).yl ?_
      refine QOps.st rfl rfl (Yl.callV rfl callable46 (.cons rfl (.cons rfl (.nil))) (fun w' hw' => compareReports_spec)) ?_
      refine QOps.st rfl rfl (Yv.lss rfl rfl).yl ?_
      refine QOps.nil ?_
      refine Run.cond rfl (fun hc2 => ?_) (fun hc2 => ?_)
      · try replace hc2 := of_decide_eq_true hc2
        have hb : beforeR (nth rs ((i + j) / 2)) r = true := by rw [← cmpR_lt]; exact decide_eq_true hc2
        refine Run.quiet (by intro h; cases h) ?_
        refine QOps.st rfl rfl (Yv.move rfl).yl ?_
        refine QOps.st rfl rfl (Yv.succN rfl rfl (by omega)).yl ?_
        refine QOps.st rfl rfl (Yv.assign rfl).yl ?_
        refine QOps.nil ?_
        refine ⟨((i + j) / 2 + 1, j), ?_, ?_, (SubE.cons rfl (SubE.cons rfl (SubE.cons rfl (SubE.cons rfl (SubE.cons rfl (SubE.cons rfl (SubE.nil _))))))), (List.Sublist.refl _)⟩
        · exact ⟨by omega, hjn, fun x hx => hm x ((i + j) / 2) (by omega) (by omega) hb, hhi⟩
        · first | omega | (dsimp only; omega)
      · try replace hc2 := of_decide_eq_false hc2
        have hb : beforeR (nth rs ((i + j) / 2)) r = false := by rw [← cmpR_lt]; exact decide_eq_false hc2
        refine Run.quiet (by intro h; cases h) ?_
        refine QOps.st rfl rfl (Yv.move rfl).yl ?_
        refine QOps.st rfl rfl (Yv.assign rfl).yl ?_
        refine QOps.nil ?_
        refine ⟨(i, (i + j) / 2), ?_, ?_, (SubE.cons rfl (SubE.cons rfl (SubE.cons rfl (SubE.cons rfl (SubE.cons rfl (SubE.cons rfl (SubE.nil _))))))), (List.Sublist.refl _)⟩
        · exact ⟨by omega, by omega, hlo, fun x h1 h2 => by
                by_cases h3 : beforeR (nth rs x) r = true
                · rw [hm ((i + j) / 2) x h1 h2 h3] at hb; cases hb
                · simpa using h3⟩
        · first | omega | (dsimp only; omega)
    · try replace hc1 := of_decide_eq_false hc1
      refine Run.exit ?_
      refine Run.seq ?_
      refine Run.quiet (fun _ => ⟨by kernel_rfl, by kernel_rfl⟩) ?_
      refine QOps.st rfl rfl (Yv.move rfl).yl ?_
      refine QOps.st rfl rfl (Yv.move rfl).yl ?_
      refine QOps.st rfl rfl (Yv.move rfl).yl ?_
      refine QOps.st rfl rfl (Yv.lss rfl rfl).yl ?_
      refine QOps.st rfl rfl (Yv.move rfl).yl ?_
      refine' QOps.and [_, _, _, _, _, _, _, _] _ (.tmp 47) rfl rfl rfl rfl rfl rfl (fun hg1 => ?_) ?_
      rotate_left
      · try replace hg1 := of_decide_eq_true hg1
        refine QOps.st rfl rfl (Yv.move rfl).yl ?_
        refine QOps.st rfl rfl (Yv.move rfl).yl ?_
        refine QOps.st rfl rfl (Yv.move rfl).yl ?_
        refine QOps.st rfl rfl (Yv.indexAddr i el33 rfl rfl rfl (Rd.arg hs) (by omega)).yl ?_
        refine QOps.st rfl rfl (Yv.loadEs lay25 rfl Report.len (Rd.arg hs) (by first | omega | (simp; omega)) (by decide)).yl ?_
        refine QOps.st rfl rfl (Yv.loadBs (i := 0) lay25 rfl rfl rfl rfl).yl ?_
        refine QOps.st rfl rfl (Yl.callV rfl callable46 (.cons rfl (.cons rfl (.nil))) (fun w' hw' => compareReports_spec)) ?_
        refine QOps.st rfl rfl (Yv.eqI rfl rfl).yl ?_
        exact QOps.nil rfl
      refine QOps.st rfl rfl (Yv.assign rfl).yl ?_
      refine QOps.st rfl rfl (Yv.assign rfl).yl ?_
      refine QOps.nil ?_
      refine Run.ret ?_
      obtain rfl : j = i := by omega
      have hp : posR rs r = j := posR_eq hjn hlo (by
          by_cases h3 : j < rs.length
          · rw [hhi j (Nat.le_refl _) h3]; simp
          · rw [decide_eq_false (by omega)]; rfl)
      refine retQ.of (.inr rfl) rfl (.tmp rfl (.tmp rfl .nil)) (fun w' hw' => ?_)
      refine ⟨?_, hw'.bel.below⟩
      unfold foundR
      rw [hp]
      by_cases h3 : j < rs.length
      · rw [← cmpR_zero (hhi j (Nat.le_refl _) h3)]; rfl
      · simp [h3]; rfl
theorem ins_a {rs : List Report} {r : Report} {i : Nat} (h : i = rs.length) : rs ++ [r] = rs.take i ++ [r] ++ rs.drop i := by
  subst h
  simp
theorem ins_b {rs : List Report} {r z : Report} {i m : Nat} (h : i < rs.length) (hm : m = rs.length + 1 - i) : ((List.take i (rs.take i ++ List.replicate m z) ++ List.take 1 [r] ++ List.drop (i + 1) (rs.take i ++ List.replicate m z)).take (i + 1) ++ (rs.drop i).take (rs.length - i) ++ (List.take i (rs.take i ++ List.replicate m z) ++ List.take 1 [r] ++ List.drop (i + 1) (rs.take i ++ List.replicate m z)).drop (i + 1 + (rs.length - i))) = rs.take i ++ [r] ++ rs.drop i := by
  have e1 : List.take i (rs.take i ++ List.replicate m z) = rs.take i := List.take_left' (by simp; omega)
  have hl : (rs.take i ++ List.take 1 [r] : List Report).length = i + 1 := by simp; omega
  have hD : (rs.take i ++ List.take 1 [r] ++ List.drop (i + 1) (rs.take i ++ List.replicate m z)).length ≤ i + 1 + (rs.length - i) := by
    rw [List.length_append, hl, List.length_drop, List.length_append, List.length_take, List.length_replicate]
    omega
  rw [e1, List.take_left' hl, List.take_of_length_le (Nat.le_of_eq List.length_drop), List.drop_of_length_le hD, List.append_nil]
  rfl
theorem ins_c {rs : List Report} {r : Report} {i : Nat} (h : i < rs.length) : (List.take i (rs.take (i + 1) ++ rs.drop i) ++ List.take 1 [r] ++ List.drop (i + 1) (rs.take (i + 1) ++ rs.drop i)) = rs.take i ++ [r] ++ rs.drop i := by
  have e1 : (rs.take (i + 1) ++ rs.drop i).drop (i + 1) = rs.drop i := List.drop_left' (by simp; omega)
  have e2 : (rs.take (i + 1) ++ rs.drop i).take i = rs.take i := by
    rw [List.take_append_of_le_length (by simp; omega), List.take_take, Nat.min_eq_left (by omega)]
  rw [e1, e2]
  rfl
theorem row_bel {w w' : World} {F : List Nat} {H : List HEnt} {vb c T sz m : Nat} {xs : List Value} (hv : (HEnt.row (some ⟨vb, 0, none⟩) c T sz m xs).ok w) (hF : vb ∉ F) (hw : HOk w F H w') : (HEnt.row (some ⟨vb, 0, none⟩) c T sz m xs).ok w' :=
  hv.kept (fun g hg => hw.bel.block g (hv.lt g hg) (by simp only [HEnt.block, Option.map_some, Option.some.injEq] at hg; subst hg; exact hF))
theorem insert_spec {w : World} {A : Option Addr} {c vb i : Nat} {rs : List Report} {r : Report} (hrow : (HEnt.row A c 25 6 rs.length (rs.flatMap Report.enc)).ok w) (hv : (HEnt.row (some ⟨vb, 0, none⟩) 1 25 6 1 ([r].flatMap Report.enc)).ok w) (hne : A.map (·.block) ≠ some vb) (hi : i ≤ rs.length) (hl : rs.length ≤ 1048576) :
    Calls Tryz.prog 47 #[.slice A rs.length c, .int .i64 (i : Int), .slice (some ⟨vb, 0, none⟩) 1 1] w (RetGrow w A 25 6 (rs.length + 1) ((rs.take i ++ [r] ++ rs.drop i).flatMap Report.enc)) := by
  have hmc := (sl_of_row hrow).cap
  have hmx := Sl.lenle (sl_of_row hrow)
  have hvb : vb ∉ (A.map (·.block)).toList := fun h => hne (Option.mem_toList.1 h)
  refine calls_of_run (vs := [_, _, _]) (L := [(0, _), (1, _), (2, _)]) (n := 95) (F := (A.map (·.block)).toList) (H := [_]) Tryz.func47 rfl rfl rfl rfl (HOk.borrowRow hrow) ?_
  refine Run.seq ?_
  refine Run.quiet (by intro h; cases h) ?_
  refine QOps.st rfl rfl (Yv.assign rfl).yl ?_
  refine QOps.nil ?_
  refine Run.seq ?_
  refine Run.quiet (by intro h; cases h) ?_
  refine QOps.st rfl rfl (Yv.move rfl).yl ?_
  refine QOps.st rfl rfl (Yv.move rfl).yl ?_
  refine QOps.st rfl rfl (Yv.cutFrom i el33 rfl rfl rfl (by omega)).yl ?_
  refine QOps.nil ?_
  refine Run.seq ?_
  refine Run.quiet (by intro h; cases h) ?_
  refine QOps.st rfl rfl (Yv.move rfl).yl ?_
  refine QOps.st rfl rfl (Yv.lenS el33s rfl).yl ?_
  refine QOps.st rfl rfl (Yv.assign rfl).yl ?_
  refine QOps.nil ?_
  refine Run.seq ?_
  refine Run.seq ?_
  refine Run.quiet (by intro h; cases h) ?_
  refine QOps.st rfl rfl (Yv.move rfl).yl ?_
  refine QOps.st rfl rfl (Yv.eqI rfl rfl).yl ?_
  refine QOps.nil ?_
  refine Run.cond rfl (fun hc1 => ?_) (fun hc1 => ?_)
  · exfalso
    simp at hc1
  · try replace hc1 := of_decide_eq_false hc1
    refine Run.skip ?_
    refine Run.seq ?_
    refine Run.quiet (by intro h; cases h) ?_
    refine QOps.st rfl rfl (Yv.move rfl).yl ?_
    refine QOps.st rfl rfl (Yv.lenS el33s rfl).yl ?_
    refine QOps.st rfl rfl (Yv.assign rfl).yl ?_
    refine QOps.nil ?_
    refine Run.seq ?_
    refine Run.seq ?_
    refine Run.quiet (by intro h; cases h) ?_
    refine QOps.st rfl rfl (Yv.move rfl).yl ?_
    refine QOps.st rfl rfl (Yv.move rfl).yl ?_
    refine QOps.st rfl rfl (Yv.eqI rfl rfl).yl ?_
    refine QOps.nil ?_
    refine Run.cond rfl (fun hc2 => ?_) (fun hc2 => ?_)
    · try replace hc2 := of_decide_eq_true hc2
      refine Run.seq ?_
      refine Run.ops ?_
      refine SOps.st rfl rfl (Yv.move rfl).yl ?_
      refine SOps.st rfl rfl (Yv.move rfl).yl ?_
      refine SOps.one rfl (One.append (enc := Report.enc) (l := rs) (l2 := [r]) (m' := (rs.length + 1)) (i := 0) (H' := fun A c => [_]) rfl el33 zero25 rfl (by decide) rfl rfl rfl (Rd.argN (sl_of_row hv) (fun _ => hvb)) (fun _ => rfl) rfl (by omega) (by omega) (fun _ _ => rfl) (fun A1 c1 => ?_))
      refine SOps.st rfl rfl (Yv.assign rfl).yl ?_
      refine SOps.nil ?_
      refine Run.ret ?_
      refine retQ.of (.inr rfl) rfl (.tmp rfl .nil) (fun w' hw' => ?_)
      have h9 := hw'.ent _ (List.mem_of_getElem? (i := 0) rfl)
      rw [ins_a (r := r) (show i = rs.length by omega)] at h9
      exact ⟨_, _, rfl, hw'.bel, h9, fun g hg => (hw'.own _ (List.mem_of_getElem? (i := 0) rfl) g hg).symm.imp (fun h => Option.mem_toList.1 h) id⟩
    · try replace hc2 := of_decide_eq_false hc2
      refine Run.skip ?_
      refine Run.seq ?_
      refine Run.seq ?_
      refine Run.quiet (by intro h; cases h) ?_
      refine QOps.st rfl rfl (Yv.move rfl).yl ?_
      refine QOps.st rfl rfl (Yv.move rfl).yl ?_
      refine QOps.st rfl rfl (Yv.add rfl rfl (by omega)).yl ?_
      refine QOps.st rfl rfl (Yv.move rfl).yl ?_
      refine QOps.st rfl rfl (Yv.capS el33s rfl).yl ?_
      refine QOps.st rfl rfl (Yv.gtr rfl rfl).yl ?_
      refine QOps.nil ?_
      refine Run.cond rfl (fun hc3 => ?_) (fun hc3 => ?_)
      · try replace hc3 := of_decide_eq_true hc3
        refine Run.seq ?_
        refine Run.ops ?_
        refine SOps.st rfl rfl (Yv.move rfl).yl ?_
        refine SOps.st rfl rfl (Yv.move rfl).yl ?_
        refine SOps.st rfl rfl (Yv.cutTo0 i el33 rfl rfl rfl (by omega)).yl ?_
        refine SOps.st rfl rfl (Yv.move rfl).yl ?_
        refine SOps.st rfl rfl (Yv.move rfl).yl ?_
        refine SOps.st rfl rfl (Yv.add rfl rfl (by omega)).yl ?_
        refine SOps.st rfl rfl (Yv.move rfl).yl ?_
        refine SOps.st rfl rfl (Yv.sub rfl rfl (by omega)).yl ?_
        refine SOps.one rfl (One.appendZN (enc := Report.enc) (l2 := rs.take i) (k := i) (q := rs.length + 1 - i) (m' := rs.length + 1) default rfl el33 int3 zero25 rfl Report.len (by decide) rfl rfl (by omega) (Rd.cut0 (xs := rs) Report.len (Rd.row (i := 0) rfl) (by omega)) (by omega) (by omega) (by omega) (by omega) (by omega) (fun AZ cZ hgeZ => ?_))
        refine SOps.st rfl rfl (Yv.assign rfl).yl ?_
        refine SOps.nil ?_
        refine Run.seq ?_
        refine Run.ops ?_
        refine SOps.st rfl rfl (Yv.move rfl).yl ?_
        refine SOps.st rfl rfl (Yv.move rfl).yl ?_
        refine SOps.st rfl rfl (Yv.cutFrom i el33 rfl rfl rfl (by omega)).yl ?_
        refine SOps.st rfl rfl (Yv.move rfl).yl ?_
        refine SOps.one rfl (One.copy (enc := Report.enc) (l := (rs.take i ++ List.replicate (rs.length + 1 - i) default)) (l2 := [r]) (o := i) (q := 1) (i := 0) (H' := [_, _]) rfl el33 Report.len (fun _ => rfl) rfl rfl (fun _ => cutA_at (by omega)) rfl (by omega) (Rd.argN (sl_of_row hv) (fun _ => hvb)) rfl (by omega) rfl ?_)
        refine SOps.nil ?_
        refine Run.seq ?_
        refine Run.draws (fun H => (H).eraseIdx 0) (m := 9) (listed := #[false, false, false, false, false, false, false, false, false]) (by kernel_rfl) rfl rfl ?_
        refine DOps.take (listed' := #[true, false, false, false, false, false, false, false, false]) 0 rfl (by kernel_rfl) rfl (List.Sublist.cons _ (List.Sublist.refl _)) rfl rfl (Yv.move rfl) ?_
        refine DOps.take (listed' := #[true, true, false, false, false, false, false, false, false]) 1 rfl (by kernel_rfl) rfl (List.Sublist.cons _ (List.Sublist.refl _)) rfl rfl (Yv.move rfl) ?_
        refine DOps.take (listed' := #[true, true, true, false, false, false, false, false, false]) 2 rfl (by kernel_rfl) rfl (List.Sublist.cons _ (List.Sublist.refl _)) rfl rfl (Yv.move rfl) ?_
        refine DOps.take (listed' := #[true, true, true, true, false, false, false, false, false]) 3 rfl (by kernel_rfl) rfl (List.Sublist.cons _ (List.Sublist.refl _)) rfl rfl (Yv.add rfl rfl (by omega)) ?_
        refine DOps.take (listed' := #[true, true, true, true, true, false, false, false, false]) 4 rfl (by kernel_rfl) rfl (List.Sublist.cons _ (List.Sublist.refl _)) rfl rfl (Yv.cutFrom (i + 1) el33 rfl rfl (by omega) (by omega)) ?_
        refine DOps.take (listed' := #[true, true, true, true, true, true, false, false, false]) 5 rfl (by kernel_rfl) rfl (List.Sublist.cons _ (List.Sublist.refl _)) rfl rfl (Yv.move rfl) ?_
        refine DOps.take (listed' := #[true, true, true, true, true, true, true, false, false]) 6 rfl (by kernel_rfl) rfl (List.Sublist.cons _ (List.Sublist.refl _)) rfl rfl (Yv.move rfl) ?_
        refine DOps.take (listed' := #[true, true, true, true, true, true, true, true, false]) 7 rfl (by kernel_rfl) rfl (List.Sublist.cons _ (List.Sublist.refl _)) rfl rfl (Yv.cutFrom i el33 rfl rfl rfl (by omega)) ?_
        refine DOps.only (listed' := #[true, true, true, true, true, true, true, true, true]) 8 rfl (by kernel_rfl) rfl rfl ?_
        refine One.copy (enc := Report.enc) (l := ((rs.take i ++ List.replicate (rs.length + 1 - i) default).take i ++ [r].take 1 ++ (rs.take i ++ List.replicate (rs.length + 1 - i) default).drop (i + 1))) (l2 := (rs.drop i)) (o := (i + 1)) (q := (rs.length - i)) (i := 0) (H' := [_, _]) rfl el33 Report.len (fun _ => rfl) rfl rfl (fun _ => cutA_at (by omega)) rfl (by omega) (Rd.cutF (xs := rs) Report.len (Rd.row (i := 1) rfl) rfl (by omega)) (by simp) (by omega) rfl ?_
        refine ⟨(List.Sublist.cons _ (List.Sublist.refl _)), ?_⟩
        refine DOps.done (by kernel_rfl) ?_
        refine Run.seq ?_
        refine Run.quiet (by intro h; cases h) ?_
        refine QOps.st rfl rfl (Yv.move rfl).yl ?_
        refine QOps.st rfl rfl (Yv.assign rfl).yl ?_
        refine QOps.nil ?_
        refine Run.ret ?_
        refine retQ.of (.inr rfl) rfl (.tmp rfl .nil) (fun w' hw' => ?_)
        have h9 := hw'.ent _ (List.mem_of_getElem? (i := 0) rfl)
        rw [ins_b (by omega) rfl] at h9
        exact ⟨_, _, rfl, hw'.bel, h9, fun g hg => (hw'.own _ (List.mem_of_getElem? (i := 0) rfl) g hg).symm.imp (fun h => Option.mem_toList.1 h) id⟩
      · try replace hc3 := of_decide_eq_false hc3
        refine Run.skip ?_
        refine Run.seq ?_
        refine Run.quiet (by intro h; cases h) ?_
        refine QOps.st rfl rfl (Yv.move rfl).yl ?_
        refine QOps.st rfl rfl (Yv.move rfl).yl ?_
        refine QOps.st rfl rfl (Yv.move rfl).yl ?_
        refine QOps.st rfl rfl (Yv.add rfl rfl (by omega)).yl ?_
        refine QOps.st rfl rfl (Yv.cutTo0 (rs.length + 1) el33 rfl rfl (by omega) (by omega)).yl ?_
        refine QOps.st rfl rfl (Yv.assign rfl).yl ?_
        refine QOps.nil ?_
        refine Run.seq ?_
        refine Run.seq ?_
        refine Run.ops ?_
        refine SOps.st rfl rfl (Yv.move rfl).yl ?_
        refine SOps.st rfl rfl (Yv.move rfl).yl ?_
        refine SOps.st rfl rfl (Yv.move rfl).yl ?_
        refine SOps.st rfl rfl (Yv.move rfl).yl ?_
        refine SOps.st rfl rfl (Yv.add rfl rfl (by omega)).yl ?_
        refine SOps.st rfl rfl (Yv.cutFrom (i + 1) el33 rfl rfl (by omega) (by omega)).yl ?_
        refine SOps.st rfl rfl (Yv.overlaps (tR := 4) (T1 := 25) (sz1 := 6) (vs := [r].flatMap Report.enc) (i := 0) Tryz.func73 (by kernel_rfl) (by kernel_rfl) (by kernel_rfl) (by kernel_rfl) el33 rfl rfl (cutA_at (by omega)) (fun w' hw' => row_bel hv hvb hw') rfl (by omega) (by decide) hne).yl ?_
        refine SOps.st rfl rfl (Yv.not rfl).yl ?_
        refine SOps.nil ?_
        refine Run.cond rfl (fun hc4 => ?_) (fun hc4 => ?_)
        · try replace hc4 := of_decide_eq_true hc4
          refine Run.seq ?_
          refine Run.draws (fun H => (H).eraseIdx 0) (m := 9) (listed := #[false, false, false, false, false, false, false, false, false]) (by kernel_rfl) rfl rfl ?_
          refine DOps.take (listed' := #[true, false, false, false, false, false, false, false, false]) 0 rfl (by kernel_rfl) rfl (List.nil_sublist _) rfl rfl (Yv.move rfl) ?_
          refine DOps.take (listed' := #[true, true, false, false, false, false, false, false, false]) 1 rfl (by kernel_rfl) rfl (List.nil_sublist _) rfl rfl (Yv.move rfl) ?_
          refine DOps.take (listed' := #[true, true, true, false, false, false, false, false, false]) 2 rfl (by kernel_rfl) rfl (List.nil_sublist _) rfl rfl (Yv.move rfl) ?_
          refine DOps.take (listed' := #[true, true, true, true, false, false, false, false, false]) 3 rfl (by kernel_rfl) rfl (List.nil_sublist _) rfl rfl (Yv.add rfl rfl (by omega)) ?_
          refine DOps.take (listed' := #[true, true, true, true, true, false, false, false, false]) 4 rfl (by kernel_rfl) rfl (List.nil_sublist _) rfl rfl (Yv.cutFrom (i + 1) el33 rfl rfl (by omega) (by omega)) ?_
          refine DOps.take (listed' := #[true, true, true, true, true, true, false, false, false]) 5 rfl (by kernel_rfl) rfl (List.nil_sublist _) rfl rfl (Yv.move rfl) ?_
          refine DOps.take (listed' := #[true, true, true, true, true, true, true, false, false]) 6 rfl (by kernel_rfl) rfl (List.nil_sublist _) rfl rfl (Yv.move rfl) ?_
          refine DOps.take (listed' := #[true, true, true, true, true, true, true, true, false]) 7 rfl (by kernel_rfl) rfl (List.nil_sublist _) rfl rfl (Yv.cutFrom i el33 rfl rfl rfl (by omega)) ?_
          refine DOps.only (listed' := #[true, true, true, true, true, true, true, true, true]) 8 rfl (by kernel_rfl) rfl rfl ?_
          refine One.copyG (enc := Report.enc) (l := rs) (l2 := rs.drop i) (o := i + 1) (m' := rs.length + 1) (q := rs.length - i) (i := 0) (H' := [_]) rfl el33 Report.len (fun _ => rfl) rfl rfl (cutA_at (by omega)) rfl (by omega) (by omega) (by omega) (by omega) (by omega) (by omega) (Rd.cutF (xs := rs) Report.len (Rd.row (i := 0) rfl) rfl (by omega)) (by simp) rfl ?_
          refine ⟨(List.nil_sublist _), ?_⟩
          refine DOps.done (by kernel_rfl) ?_
          refine Run.seq ?_
          refine Run.ops ?_
          refine SOps.st rfl rfl (Yv.move rfl).yl ?_
          refine SOps.st rfl rfl (Yv.move rfl).yl ?_
          refine SOps.st rfl rfl (Yv.cutFrom i el33 rfl rfl rfl (by omega)).yl ?_
          refine SOps.st rfl rfl (Yv.move rfl).yl ?_
          refine SOps.one rfl (One.copy (enc := Report.enc) (l := (rs.take (i + 1) ++ rs.drop i)) (l2 := [r]) (o := i) (q := 1) (i := 0) (H' := [_]) rfl el33 Report.len (fun _ => rfl) rfl rfl (fun _ => cutA_at (by omega)) rfl (by omega) (Rd.argN (sl_of_row hv) (fun _ => hvb)) rfl (by omega) rfl ?_)
          refine SOps.nil ?_
          refine Run.seq ?_
          refine Run.quiet (by intro h; cases h) ?_
          refine QOps.st rfl rfl (Yv.move rfl).yl ?_
          refine QOps.st rfl rfl (Yv.assign rfl).yl ?_
          refine QOps.nil ?_
          refine Run.ret ?_
          refine retQ.of (.inr rfl) rfl (.tmp rfl .nil) (fun w' hw' => ?_)
          have h9 := hw'.ent _ (List.mem_of_getElem? (i := 0) rfl)
          rw [ins_c (by omega)] at h9
          exact ⟨_, _, rfl, hw'.bel, h9, fun g hg => (hw'.own _ (List.mem_of_getElem? (i := 0) rfl) g hg).symm.imp (fun h => Option.mem_toList.1 h) id⟩
        · exfalso
          simp at hc4
theorem file_mono {rs : List Report} {r : Report} (hf : isFile rs = true) : ∀ x y, x ≤ y → y < rs.length → beforeR (nth rs y) r = true → beforeR (nth rs x) r = true := fun x y h1 h2 h3 => by
  rcases Nat.lt_or_ge x y with h4 | h4
  · exact before_trans (file_sorted hf h4 h2) h3
  · obtain rfl : x = y := by omega
    exact h3
theorem FileReport_spec {w : World} {A : Option Addr} {c : Nat} {rs : List Report} {r : Report} (hs : Sl w 6 A rs.length c (rs.flatMap Report.enc)) (hl : rs.length ≤ 1048576) : Calls Tryz.prog 13 #[.slice A rs.length c, .agg r.enc.toArray] w (RetRow w 25 6 (fileOf rs r).1.length ((fileOf rs r).1.flatMap Report.enc) (fun s => .tuple #[s, .bool (fileOf rs r).2.1, .bool (fileOf rs r).2.2])) := by
  have hmx := Sl.lenle hs
  refine calls_of_run (vs := [_, _]) (L := [(0, _), (1, _)]) (n := 38) (F := []) (H := []) Tryz.func13 rfl rfl rfl rfl (HOk.start _) ?_
  refine Run.seq ?_
  refine Run.ops ?_
  refine SOps.one rfl (One.box (cs := [_, _, _, _, _, _]) rfl rfl rfl (fun b1 => ?_))
  refine SOps.st rfl rfl (Yv.assign rfl).yl ?_
  refine SOps.st rfl rfl (Yv.assign rfl).yl ?_
  refine SOps.st rfl rfl (Yv.assign rfl).yl ?_
  refine SOps.nil ?_
  refine Run.seq ?_
  refine Run.seq ?_
  refine Run.quiet (by intro h; cases h) ?_
  refine QOps.st rfl rfl (Yv.move rfl).yl ?_
  refine QOps.st rfl rfl (Yl.call callable16 (.cons rfl (.nil)) (fun w' hw' => IsFile_spec ((Rd.arg hs) w' hw'))) ?_
  refine QOps.st rfl rfl (Yv.not rfl).yl ?_
  refine QOps.st rfl rfl (Yv.move rfl).yl ?_
  refine' QOps.or [_, _, _] _ (.tmp 16) rfl rfl rfl rfl rfl rfl (fun hg1 => ?_) ?_
  rotate_left
  · try replace hg1 := of_decide_eq_false hg1
    refine QOps.st rfl rfl (Yv.loadBs (i := 0) lay25 rfl rfl rfl rfl).yl ?_
    refine QOps.st rfl rfl (Yl.call callable8 (.cons rfl (.nil)) (fun w' hw' => IsEReport_spec)) ?_
    refine QOps.st rfl rfl (Yv.not rfl).yl ?_
    exact QOps.nil rfl
  refine QOps.nil ?_
  refine Run.cond rfl (fun hc1 => ?_) (fun hc1 => ?_)
  · try replace hc1 := of_decide_eq_true hc1
    have hn : (isFile rs && oneR r) = false := by revert hc1; cases isFile rs <;> cases oneR r <;> simp
    refine Run.seq ?_
    refine Run.quiet (by intro h; cases h) ?_
    refine QOps.st rfl rfl (Yv.assign rfl).yl ?_
    refine QOps.st rfl rfl (Yv.assign rfl).yl ?_
    refine QOps.st rfl rfl (Yv.assign rfl).yl ?_
    refine QOps.nil ?_
    refine Run.ret ?_
    refine retQ.of (.inr rfl) rfl (.tmp rfl (.tmp rfl (.tmp rfl .nil))) (fun w' hw' => ?_)
    rw [fileOf_no hn]; exact ⟨_, _, rfl, hw'.bel.below, ⟨by first | rfl | simp, .inl ⟨rfl, rfl⟩⟩, by simp⟩
  · try replace hc1 := of_decide_eq_false hc1
    have hy : (isFile rs && oneR r) = true := by revert hc1; cases isFile rs <;> cases oneR r <;> simp
    have hmono := file_mono (r := r) (by simp only [Bool.and_eq_true] at hy; exact hy.1)
    refine Run.skip ?_
    refine Run.seq ?_
    refine Run.ops ?_
    refine SOps.one rfl (One.buildSliceG (pv := []) (cs := []) (fun _ => []) rfl el33 .nil rfl rfl (by kernel_rfl) rfl rfl (fun b2 => ?_))
    refine SOps.st rfl rfl (Yv.move rfl).yl ?_
    refine SOps.one rfl (One.append (enc := Report.enc) (l := ([] : List Report)) (l2 := rs) (m' := rs.length) (i := 0) (H' := fun A c => [_, _]) rfl el33 zero25 rfl (by decide) rfl rfl rfl (Rd.arg hs) (fun _ => rfl) (by simp) (by omega) (by omega) (fun _ _ => rfl) (fun A1 c1 => ?_))
    refine SOps.st rfl rfl (Yv.assign rfl).yl ?_
    refine SOps.nil ?_
    refine Run.seq ?_
    refine Run.quiet (by intro h; cases h) ?_
    refine QOps.st rfl rfl (Yv.move rfl).yl ?_
    refine QOps.st rfl rfl (Yv.loadBs (i := 1) lay25 rfl rfl rfl rfl).yl ?_
    refine QOps.st rfl rfl (Yl.call callable45 (.cons rfl (.cons rfl (.cons rfl (.nil)))) (fun w' hw' => search_spec ((Rd.row (i := 0) rfl) w' hw') (by omega) hmono)) ?_
    refine QOps.st rfl rfl (Yv.move rfl).yl ?_
    refine QOps.st rfl rfl (Yv.extract rfl rfl).yl ?_
    refine QOps.st rfl rfl (Yv.extract rfl rfl).yl ?_
    refine QOps.st rfl rfl (Yv.assign rfl).yl ?_
    refine QOps.st rfl rfl (Yv.assign rfl).yl ?_
    refine QOps.nil ?_
    refine Run.seq ?_
    refine Run.seq ?_
    refine Run.quiet (by intro h; cases h) ?_
    refine QOps.st rfl rfl (Yv.move rfl).yl ?_
    refine QOps.nil ?_
    refine Run.cond rfl (fun hc2 => ?_) (fun hc2 => ?_)
    · try replace hc2 := of_decide_eq_true hc2
      have hfd : foundR rs r = true := hc2
      refine Run.seq ?_
      refine Run.quiet (by intro h; cases h) ?_
      refine QOps.st rfl rfl (Yv.move rfl).yl ?_
      refine QOps.st rfl rfl (Yv.assign rfl).yl ?_
      refine QOps.st rfl rfl (Yv.assign rfl).yl ?_
      refine QOps.st rfl rfl (Yv.assign rfl).yl ?_
      refine QOps.nil ?_
      refine Run.ret ?_
      refine retQ.of (.inr rfl) rfl (.tmp rfl (.tmp rfl (.tmp rfl .nil))) (fun w' hw' => ?_)
      rw [fileOf_found hy hfd]; exact ⟨_, _, rfl, hw'.bel.below, hw'.ent _ (List.mem_of_getElem? (i := 0) rfl), fun g hg => (hw'.own _ (List.mem_of_getElem? (i := 0) rfl) g hg).elim id (by simp)⟩
    · try replace hc2 := of_decide_eq_false hc2
      have hfd : foundR rs r = false := by simpa using hc2
      refine Run.skip ?_
      refine Run.seq ?_
      refine Run.ops ?_
      refine SOps.st rfl rfl (Yv.move rfl).yl ?_
      refine SOps.st rfl rfl (Yv.move rfl).yl ?_
      refine SOps.st rfl rfl (Yv.loadBs (i := 1) lay25 rfl rfl rfl rfl).yl ?_
      refine SOps.one rfl (One.buildSliceG (pv := [(0, _)]) (cs := [_, _, _, _, _, _]) (fun l => match l with | [.agg ⟨[a0_0, a0_1, a0_2, a0_3, a0_4, a0_5]⟩] => [a0_0, a0_1, a0_2, a0_3, a0_4, a0_5] | _ => []) rfl el33 (.cons rfl (.nil)) rfl rfl (by kernel_rfl) rfl rfl (fun b3 => ?_))
      refine SOps.one rfl (One.callGrow (i := 1) (H' := fun A c => [_, _, _]) rfl callable47 (.cons rfl (.cons rfl (.cons rfl (.nil)))) rfl (fun w' hw' => insert_spec (r := r) (hw'.ent _ (List.mem_of_getElem? (i := 1) rfl)) (hw'.ent _ (List.mem_of_getElem? (i := 0) rfl)) (HOk.apart hw' (i := 0) (j := 1) rfl rfl (by decide) rfl) posR_le (by omega)) (fun _ _ => rfl) (fun A2 c2 => ?_))
      refine SOps.st rfl rfl (Yv.assign rfl).yl ?_
      refine SOps.nil ?_
      refine Run.seq ?_
      refine Run.seq ?_
      refine Run.quiet (by intro h; cases h) ?_
      refine QOps.st rfl rfl (Yv.move rfl).yl ?_
      refine QOps.st rfl rfl (Yl.call callable16 (.cons rfl (.nil)) (fun w' hw' => IsFile_spec' (rs := putR rs r) putR_len (Rd.row (i := 1) rfl w' hw'))) ?_
      refine QOps.st rfl rfl (Yv.not rfl).yl ?_
      refine QOps.nil ?_
      refine Run.cond rfl (fun hc3 => ?_) (fun hc3 => ?_)
      · try replace hc3 := of_decide_eq_true hc3
        have hp : isFile (putR rs r) = false := by simpa using hc3
        refine Run.seq ?_
        refine Run.quiet (by intro h; cases h) ?_
        refine QOps.st rfl rfl (Yv.assign rfl).yl ?_
        refine QOps.st rfl rfl (Yv.assign rfl).yl ?_
        refine QOps.st rfl rfl (Yv.assign rfl).yl ?_
        refine QOps.nil ?_
        refine Run.ret ?_
        refine retQ.of (.inr rfl) rfl (.tmp rfl (.tmp rfl (.tmp rfl .nil))) (fun w' hw' => ?_)
        rw [fileOf_bad hy hfd hp]; exact ⟨_, _, rfl, hw'.bel.below, ⟨by first | rfl | simp, .inl ⟨rfl, rfl⟩⟩, by simp⟩
      · try replace hc3 := of_decide_eq_false hc3
        have hp : isFile (putR rs r) = true := by simpa using hc3
        refine Run.skip ?_
        refine Run.seq ?_
        refine Run.quiet (by intro h; cases h) ?_
        refine QOps.st rfl rfl (Yv.move rfl).yl ?_
        refine QOps.st rfl rfl (Yv.assign rfl).yl ?_
        refine QOps.st rfl rfl (Yv.assign rfl).yl ?_
        refine QOps.st rfl rfl (Yv.assign rfl).yl ?_
        refine QOps.nil ?_
        refine Run.ret ?_
        refine retQ.of (.inr rfl) rfl (.tmp rfl (.tmp rfl (.tmp rfl .nil))) (fun w' hw' => ?_)
        rw [fileOf_put hy hfd hp, show (putR rs r, true, true).1.length = rs.length + 1 from putR_len]; exact ⟨_, _, rfl, hw'.bel.below, hw'.ent _ (List.mem_of_getElem? (i := 1) rfl), fun g hg => (hw'.own _ (List.mem_of_getElem? (i := 1) rfl) g hg).elim id (by simp)⟩
end Go.Proofs.YtlpgcbkialcjcaaGreatDoor
