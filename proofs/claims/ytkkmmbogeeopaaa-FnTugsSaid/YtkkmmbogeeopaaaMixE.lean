/- The law FnTowing, walked. Conditions: none. -/
import Derived.Test.YtkkmmbogeeopaaaMixD
namespace Go.Proofs.Ytkkmmbogeeopaaa
open Go.RowKit
set_option maxRecDepth 100000
def hasB (l : List Int) (x : Int) : Bool := !allTo l.length (fun i => !decide (nth l i = x))
theorem hasB_yes {l : List Int} {x : Int} (h : x ∈ l) : hasB l x = true := by
  obtain ⟨i, hi, he⟩ := List.getElem_of_mem h
  unfold hasB
  rw [allTo_false (i := i) hi (by
    have h2 : nth l i = x := by rw [nth, List.getD_eq_getElem?_getD, List.getElem?_eq_getElem hi]; exact he
    rw [decide_eq_true h2]
    rfl)]
  rfl
theorem rHas_spec {w : World} {A : Option Addr} {c : Nat} {l : List Int} {x : Int} (hs : Sl w 1 A l.length c (l.flatMap intC)) : Calls Try.prog 28 #[.slice A l.length c, .int .i64 x] w (RetB w (.bool (hasB l x))) := by
  have hmx := Sl.lenle hs
  refine calls_of_run (vs := [_, _]) (L := [(0, _), (1, _)]) (n := 18) (F := []) (H := []) Try.func28 rfl rfl rfl rfl (HOk.start _) ?_
  refine Run.seq ?_
  refine Run.quiet (by intro h; cases h) ?_
  refine QOps.st rfl rfl (Yv.assign rfl).yl ?_
  refine QOps.nil ?_
  refine Run.seq ?_
  refine Run.seq ?_
  refine Run.quiet (by intro h; cases h) ?_
  refine QOps.st rfl rfl (Yv.assign rfl).yl ?_
  refine QOps.nil ?_
  refine Run.block ?_
  refine Run.loop (S := Nat) (fun s => match s with | k => k ≤ l.length ∧ ∀ i, i < k → decide (nth l i = x) = false) (fun s => match s with | k => [(0, .slice A l.length c), (1, .int .i64 x), (5, .int .i64 (k : Int))]) (fun s => match s with | k => []) (fun s => match s with | k => l.length - k) 0 ?_ (SubE.cons rfl (SubE.cons rfl (SubE.cons rfl (SubE.nil _)))) (List.Sublist.refl _) ?_
  · exact ⟨by omega, fun i hi => by omega⟩
  · rintro k ⟨hk, hall⟩
    show Run _ _ _ _ _ [(0, .slice A l.length c), (1, .int .i64 x), (5, .int .i64 (k : Int))] [] _
    refine Run.seq ?_
    refine Run.seq ?_
    refine Run.quiet (by intro h; cases h) ?_
    refine QOps.st rfl rfl (Yv.move rfl).yl ?_
    refine QOps.st rfl rfl (Yv.move rfl).yl ?_
    refine QOps.st rfl rfl (Yv.lenS el43s rfl).yl ?_
    refine QOps.st rfl rfl (Yv.lss rfl rfl).yl ?_
    refine QOps.nil ?_
    refine Run.cond rfl (fun hc1 => ?_) (fun hc1 => ?_)
    · try replace hc1 := of_decide_eq_true hc1
      refine Run.skip ?_
      refine Run.seq ?_
      refine Run.block ?_
      refine Run.seq ?_
      refine Run.quiet (by intro h; cases h) ?_
      refine QOps.st rfl rfl (Yv.move rfl).yl ?_
      refine QOps.st rfl rfl (Yv.move rfl).yl ?_
      refine QOps.st rfl rfl (Yv.indexAddr k el43 rfl rfl rfl (Rd.arg hs) (by omega)).yl ?_
      refine QOps.st rfl rfl (Yv.loadE lay3 rfl intC_len (Rd.arg hs) (by first | omega | (simp; omega)) rfl).yl ?_
      refine QOps.st rfl rfl (Yv.move rfl).yl ?_
      refine QOps.st rfl rfl (Yv.eqI rfl rfl).yl ?_
      refine QOps.nil ?_
      refine Run.cond rfl (fun hc2 => ?_) (fun hc2 => ?_)
      · try replace hc2 := of_decide_eq_true hc2
        refine Run.seq ?_
        refine Run.quiet (by intro h; cases h) ?_
        refine QOps.st rfl rfl (Yv.assign rfl).yl ?_
        refine QOps.nil ?_
        refine Run.ret ?_
        refine retQ.of (.inr rfl) rfl (.tmp rfl .nil) (fun w' hw' => ?_)
        refine ⟨?_, hw'.bel.below⟩
        refine retB_eq ?_
        unfold hasB; rw [allTo_false (i := k) (by omega) (by rw [decide_eq_true hc2]; rfl)]; rfl
      · try replace hc2 := of_decide_eq_false hc2
        refine Run.skip ?_
        refine Run.quiet (by intro h; cases h) ?_
        refine QOps.st rfl rfl (Yv.move rfl).yl ?_
        refine QOps.st rfl rfl (Yv.succN rfl rfl (by omega)).yl ?_
        refine QOps.st rfl rfl (Yv.assign rfl).yl ?_
        refine QOps.nil ?_
        refine ⟨k + 1, ?_, ?_, (SubE.cons rfl (SubE.cons rfl (SubE.cons rfl (SubE.nil _)))), (List.Sublist.refl _)⟩
        · exact ⟨by omega, all_succ hall (decide_eq_false hc2)⟩
        · first | omega | (dsimp only; omega)
    · try replace hc1 := of_decide_eq_false hc1
      refine Run.exit ?_
      refine Run.seq ?_
      refine Run.quiet (by intro h; cases h) ?_
      refine QOps.st rfl rfl (Yv.assign rfl).yl ?_
      refine QOps.nil ?_
      refine Run.ret ?_
      refine retQ.of (.inr rfl) rfl (.tmp rfl .nil) (fun w' hw' => ?_)
      refine ⟨?_, hw'.bel.below⟩
      refine retB_eq ?_
      unfold hasB; rw [allTo_iff.2 (fun i hi => by rw [hall i (by omega)]; rfl)]; rfl
section
variable {ts : List Tug} {js : List Job} {who : List Int}
theorem tow_ok {id : Int} (h : (towKm ts js who id).2.2 = true) : planOk ts js who = true := by
  unfold towKm at h
  split at h
  · rename_i h1
    exact h1.1
  · cases h
theorem tow_at {k : Nat} (h : planOk ts js who = true) (hk : k < ts.length) : towKm ts js who (nth ts k).id = ((dayTo ts js who js.length).towed (nth ts k).id, (dayTo ts js who js.length).others (nth ts k).id, true) := by
  have h2 : 0 ≤ findI ts (nth ts k).id := by
    unfold findI
    rw [findTug_at (plan_is h).tugs hk]
    exact Int.natCast_nonneg k
  unfold towKm
  rw [if_pos ⟨h, h2⟩]
theorem sumIds_in {f : Int → Int} {m : Int} (h : ∀ x, 0 ≤ f x ∧ f x ≤ m) : ∀ n, 0 ≤ sumIds ts f n ∧ sumIds ts f n ≤ m * (n : Int)
  | 0 => by simp [sumIds]
  | n + 1 => by
    have h1 := sumIds_in h n
    have h2 := h (nth ts n).id
    have h3 : m * ((n + 1 : Nat) : Int) = m * (n : Int) + m := by rw [Int.natCast_add, Int.mul_add]; simp
    rw [sumIds, h3]
    omega
theorem tows_in (hT : TugsIs ts) (hJ : JobsIs js) {n : Nat} (hn : n ≤ 4) : 0 ≤ sumIds ts (dayTo ts js who js.length).towed n ∧ sumIds ts (dayTo ts js who js.length).towed n ≤ 12000 := by
  have h1 := (day_in (who := who) hT hJ (Nat.le_refl js.length)).towed
  have h2 := hJ.len
  have h3 := sumIds_in (ts := ts) (m := 3000) (fun x => ⟨(h1 x).1, by have := (h1 x).2; omega⟩) n
  omega
theorem towSum_in (hJ : JobsIs js) : ∀ {n : Nat}, n ≤ js.length → 0 ≤ towSum js n ∧ towSum js n ≤ 600 * (n : Int)
  | 0, _ => by simp [towSum]
  | n + 1, h => by
    have h1 := towSum_in hJ (n := n) (by omega)
    have h2 := hJ.each n (by omega)
    have h3 : 0 ≤ towAt js n := nearAbs_nonneg
    have h4 : towAt js n ≤ 600 := nearAbs_in h2.1 h2.2.1
    rw [towSum]
    omega
theorem towSum_up {k : Nat} (h : (nth js k).src < (nth js k).dst) : towSum js k + (nth js k).dst - (nth js k).src = towSum js (k + 1) := by
  rw [towSum, towAt, nearAbs, absI]
  split <;> omega
theorem towSum_dn {k : Nat} (h : ¬ (nth js k).src < (nth js k).dst) : towSum js k + (nth js k).src - (nth js k).dst = towSum js (k + 1) := by
  rw [towSum, towAt, nearAbs, absI]
  split <;> omega
end
theorem FnTowing_spec {w : World} {A : Option Addr} {c : Nat} {xs : List UInt8} (hs : Sl w 1 A xs.length c (xs.flatMap byteC)) (_hb : 1 * xs.length ≤ 281474976710656) : Calls Try.prog 7 #[.slice A xs.length c] w (RetB w (.bool true)) := by
  refine calls_of_run (vs := [_]) (L := [(0, _)]) (n := 230) (F := []) (H := []) Try.func7 rfl rfl rfl rfl (HOk.start _) ?_
  refine Run.seq ?_
  refine Run.quiet (by intro h; cases h) ?_
  refine QOps.st rfl rfl (Yv.assign rfl).yl ?_
  refine QOps.nil ?_
  refine Run.seq ?_
  refine Run.seq ?_
  refine Run.quiet (by intro h; cases h) ?_
  refine QOps.st rfl rfl (Yv.move rfl).yl ?_
  refine QOps.st rfl rfl (Yl.call callable20 (.cons rfl (.nil)) (fun w' hw' => rBig_spec)) ?_
  refine QOps.nil ?_
  refine Run.cond rfl (fun hc1 => ?_) (fun hc1 => ?_)
  · try replace hc1 := of_decide_eq_true hc1
    refine Run.seq ?_
    refine Run.quiet (by intro h; cases h) ?_
    refine QOps.st rfl rfl (Yv.assign rfl).yl ?_
    refine QOps.nil ?_
    refine Run.ret ?_
    refine retQ.of (.inr rfl) rfl (.tmp rfl .nil) (fun w' hw' => ?_)
    refine ⟨?_, hw'.bel.below⟩
    exact rfl
  · try replace hc1 := of_decide_eq_false hc1
    refine Run.skip ?_
    refine Run.seq ?_
    refine Run.ops ?_
    refine SOps.st rfl rfl (Yv.move rfl).yl ?_
    refine SOps.one rfl (One.callH (E := []) (H1 := []) rfl callable21 (.cons rfl (.nil)) [] rfl rfl (fun w' hw' => DrawTowedKilometers_spec ((Rd.arg hs) w' hw')) ?_)
    rintro ⟨At1, ct1, ts1, Aj1, cj1, js1, Aw1, cw1, who1, id1⟩ ⟨hts1, hjs1, hwh1⟩
    dsimp only at hts1 hjs1 hwh1
    refine SOps.st rfl rfl (Yv.move rfl).yl ?_
    refine SOps.st rfl rfl (Yv.extract rfl rfl).yl ?_
    refine SOps.st rfl rfl (Yv.extract rfl rfl).yl ?_
    refine SOps.st rfl rfl (Yv.extract rfl rfl).yl ?_
    refine SOps.st rfl rfl (Yv.extract rfl rfl).yl ?_
    refine SOps.st rfl rfl (Yv.assign rfl).yl ?_
    refine SOps.st rfl rfl (Yv.assign rfl).yl ?_
    refine SOps.st rfl rfl (Yv.assign rfl).yl ?_
    refine SOps.st rfl rfl (Yv.assign rfl).yl ?_
    refine SOps.nil ?_
    refine Run.seq ?_
    refine Run.quiet (by intro h; cases h) ?_
    refine QOps.st rfl rfl (Yv.move rfl).yl ?_
    refine QOps.st rfl rfl (Yv.move rfl).yl ?_
    refine QOps.st rfl rfl (Yv.move rfl).yl ?_
    refine QOps.st rfl rfl (Yv.move rfl).yl ?_
    refine QOps.st rfl rfl (Yl.call callable22 (.cons rfl (.cons rfl (.cons rfl (.cons rfl (.nil))))) (fun w' hw' => TowedKilometers_spec ((Rd.row (i := 2) rfl) w' hw') ((Rd.row (i := 1) rfl) w' hw') ((Rd.row (i := 0) rfl) w' hw'))) ?_
    refine QOps.st rfl rfl (Yv.move rfl).yl ?_
    refine QOps.st rfl rfl (Yv.extract rfl rfl).yl ?_
    refine QOps.st rfl rfl (Yv.extract rfl rfl).yl ?_
    refine QOps.st rfl rfl (Yv.extract rfl rfl).yl ?_
    refine QOps.st rfl rfl (Yv.assign rfl).yl ?_
    refine QOps.st rfl rfl (Yv.assign rfl).yl ?_
    refine QOps.st rfl rfl (Yv.assign rfl).yl ?_
    refine QOps.nil ?_
    refine Run.seq ?_
    refine Run.seq ?_
    refine Run.quiet (by intro h; cases h) ?_
    refine QOps.st rfl rfl (Yv.move rfl).yl ?_
    refine QOps.st rfl rfl (Yv.move rfl).yl ?_
    refine QOps.st rfl rfl (Yv.move rfl).yl ?_
    refine QOps.st rfl rfl (Yv.move rfl).yl ?_
    refine QOps.st rfl rfl (Yl.call callable23 (.cons rfl (.cons rfl (.cons rfl (.cons rfl (.nil))))) (fun w' hw' => sTowedKilometers_spec ((Rd.row (i := 2) rfl) w' hw') ((Rd.row (i := 1) rfl) w' hw') ((Rd.row (i := 0) rfl) w' hw'))) ?_
    refine QOps.st rfl rfl (Yv.move rfl).yl ?_
    refine QOps.st rfl rfl (Yv.extract rfl rfl).yl ?_
    refine QOps.st rfl rfl (Yv.extract rfl rfl).yl ?_
    refine QOps.st rfl rfl (Yv.extract rfl rfl).yl ?_
    refine QOps.st rfl rfl (Yv.assign rfl).yl ?_
    refine QOps.st rfl rfl (Yv.assign rfl).yl ?_
    refine QOps.st rfl rfl (Yv.assign rfl).yl ?_
    refine QOps.nil ?_
    refine Run.seq ?_
    refine Run.quiet (by intro h; cases h) ?_
    refine QOps.st rfl rfl (Yv.move rfl).yl ?_
    refine QOps.st rfl rfl (Yv.move rfl).yl ?_
    refine QOps.st rfl rfl (Yv.neI rfl rfl).yl ?_
    refine QOps.st rfl rfl (Yv.move rfl).yl ?_
    refine' QOps.or [_, _, _] _ (.tmp 69) rfl rfl rfl rfl rfl rfl (fun hg1 => ?_) ?_
    rotate_left
    · try replace hg1 := of_decide_eq_false hg1
      refine QOps.st rfl rfl (Yv.move rfl).yl ?_
      refine QOps.st rfl rfl (Yv.move rfl).yl ?_
      refine QOps.st rfl rfl (Yv.neI rfl rfl).yl ?_
      exact QOps.nil rfl
    refine QOps.st rfl rfl (Yv.move rfl).yl ?_
    refine' QOps.or [_, _, _] _ (.tmp 74) rfl rfl rfl rfl rfl rfl (fun hg2 => ?_) ?_
    rotate_left
    · try replace hg2 := of_decide_eq_false hg2
      refine QOps.st rfl rfl (Yv.move rfl).yl ?_
      refine QOps.st rfl rfl (Yv.move rfl).yl ?_
      refine QOps.st rfl rfl (Yv.neB bool4 rfl rfl).yl ?_
      exact QOps.nil rfl
    refine QOps.nil ?_
    refine Run.cond rfl (fun hc2 => ?_) (fun hc2 => ?_)
    · exfalso
      first | (simp at hc2; done) | (simp at hc2; omega)
    · try replace hc2 := of_decide_eq_false hc2
      refine Run.skip ?_
      refine Run.seq ?_
      refine Run.seq ?_
      refine Run.quiet (by intro h; cases h) ?_
      refine QOps.st rfl rfl (Yv.move rfl).yl ?_
      refine QOps.nil ?_
      refine Run.cond rfl (fun hc3 => ?_) (fun hc3 => ?_)
      · try replace hc3 := of_decide_eq_true hc3
        have hyes : planOk ts1 js1 who1 = true := tow_ok hc3
        have hP := plan_is hyes
        have hT := hP.tugs
        have hJ := hP.jobs
        have hW := hP.each
        have hwl := hP.len
        have htl := hT.len
        have hjl := hJ.len
        refine Run.seq ?_
        refine Run.quiet (by intro h; cases h) ?_
        refine QOps.st rfl rfl (Yv.assign rfl).yl ?_
        refine QOps.st rfl rfl (Yv.assign rfl).yl ?_
        refine QOps.nil ?_
        refine Run.seq ?_
        refine Run.seq ?_
        refine Run.quiet (by intro h; cases h) ?_
        refine QOps.st rfl rfl (Yv.assign rfl).yl ?_
        refine QOps.nil ?_
        refine Run.block ?_
        refine Run.loop (S := Nat) (fun s => match s with | k => k ≤ ts1.length) (fun s => match s with | k => [(0, .slice A xs.length c), (3, .slice At1 ts1.length ct1), (4, .slice Aj1 js1.length cj1), (5, .slice Aw1 who1.length cw1), (13, .int .i64 (sumIds ts1 (dayTo ts1 js1 who1 js1.length).towed k)), (14, .int .i64 0), (15, .int .i64 (k : Int))]) (fun s => match s with | k => [.row Aw1 cw1 3 1 who1.length (who1.flatMap intC), .row Aj1 cj1 51 5 js1.length (js1.flatMap Job.enc), .row At1 ct1 49 3 ts1.length (ts1.flatMap Tug.enc)]) (fun s => match s with | k => ts1.length - k) 0 ?_ (SubE.cons rfl (SubE.cons rfl (SubE.cons rfl (SubE.cons rfl (SubE.cons rfl (SubE.cons rfl (SubE.cons rfl (SubE.nil _)))))))) (List.Sublist.refl _) ?_
        · exact Nat.zero_le _
        · rintro k hk
          show Run _ _ _ _ _ [(0, .slice A xs.length c), (3, .slice At1 ts1.length ct1), (4, .slice Aj1 js1.length cj1), (5, .slice Aw1 who1.length cw1), (13, .int .i64 (sumIds ts1 (dayTo ts1 js1 who1 js1.length).towed k)), (14, .int .i64 0), (15, .int .i64 (k : Int))] [.row Aw1 cw1 3 1 who1.length (who1.flatMap intC), .row Aj1 cj1 51 5 js1.length (js1.flatMap Job.enc), .row At1 ct1 49 3 ts1.length (ts1.flatMap Tug.enc)] _
          refine Run.seq ?_
          refine Run.seq ?_
          refine Run.quiet (by intro h; cases h) ?_
          refine QOps.st rfl rfl (Yv.move rfl).yl ?_
          refine QOps.st rfl rfl (Yv.move rfl).yl ?_
          refine QOps.st rfl rfl (Yv.lenS el41s rfl).yl ?_
          refine QOps.st rfl rfl (Yv.lss rfl rfl).yl ?_
          refine QOps.nil ?_
          refine Run.cond rfl (fun hc4 => ?_) (fun hc4 => ?_)
          · try replace hc4 := of_decide_eq_true hc4
            have htk := tow_at hyes (show k < ts1.length by omega)
            have hsm := tows_in (who := who1) hT hJ (show k ≤ 4 by omega)
            have hsn := tows_in (who := who1) hT hJ (show k + 1 ≤ 4 by omega)
            have hnx : (sumIds ts1 (dayTo ts1 js1 who1 js1.length).towed k) + (towKm ts1 js1 who1 (nth ts1 k).id).1 = (sumIds ts1 (dayTo ts1 js1 who1 js1.length).towed (k + 1)) := by rw [htk, sumIds]
            refine Run.skip ?_
            refine Run.seq ?_
            refine Run.block ?_
            refine Run.seq ?_
            refine Run.quiet (by intro h; cases h) ?_
            refine QOps.st rfl rfl (Yv.move rfl).yl ?_
            refine QOps.st rfl rfl (Yv.move rfl).yl ?_
            refine QOps.st rfl rfl (Yv.move rfl).yl ?_
            refine QOps.st rfl rfl (Yv.move rfl).yl ?_
            refine QOps.st rfl rfl (Yv.move rfl).yl ?_
            refine QOps.st rfl rfl (Yv.indexAddr k el41 rfl rfl rfl (Rd.row (i := 2) rfl) (by omega)).yl ?_
            refine QOps.st rfl rfl (Yv.fieldAddr fld49_0 rfl).yl ?_
            refine QOps.st rfl rfl (Yv.loadF lay3 rfl Tug.len (Rd.row (i := 2) rfl) (by first | omega | (simp; omega)) (by decide) rfl).yl ?_
            refine QOps.st rfl rfl (Yl.call callable22 (.cons rfl (.cons rfl (.cons rfl (.cons rfl (.nil))))) (fun w' hw' => TowedKilometers_spec ((Rd.row (i := 2) rfl) w' hw') ((Rd.row (i := 1) rfl) w' hw') ((Rd.row (i := 0) rfl) w' hw'))) ?_
            refine QOps.st rfl rfl (Yv.move rfl).yl ?_
            refine QOps.st rfl rfl (Yv.extract rfl rfl).yl ?_
            refine QOps.st rfl rfl (Yv.extract rfl rfl).yl ?_
            refine QOps.st rfl rfl (Yv.extract rfl rfl).yl ?_
            refine QOps.st rfl rfl (Yv.assign rfl).yl ?_
            refine QOps.st rfl rfl (Yv.assign rfl).yl ?_
            refine QOps.st rfl rfl (Yv.assign rfl).yl ?_
            refine QOps.nil ?_
            refine Run.seq ?_
            refine Run.seq ?_
            refine Run.quiet (by intro h; cases h) ?_
            refine QOps.st rfl rfl (Yv.move rfl).yl ?_
            refine QOps.st rfl rfl (Yv.not rfl).yl ?_
            refine QOps.nil ?_
            refine Run.cond rfl (fun hc5 => ?_) (fun hc5 => ?_)
            · exfalso
              rw [htk] at hc5
              simp at hc5
            · try replace hc5 := of_decide_eq_false hc5
              refine Run.skip ?_
              refine Run.quiet (by intro h; cases h) ?_
              refine QOps.st rfl rfl (Yv.move rfl).yl ?_
              refine QOps.st rfl rfl (Yv.move rfl).yl ?_
              refine QOps.st rfl rfl (Yv.add rfl rfl (by omega)).yl ?_
              refine QOps.st rfl rfl (Yv.assign rfl).yl ?_
              refine QOps.nil ?_
              refine Run.quiet (by intro h; cases h) ?_
              refine QOps.st rfl rfl (Yv.move rfl).yl ?_
              refine QOps.st rfl rfl (Yv.succN rfl rfl (by omega)).yl ?_
              refine QOps.st rfl rfl (Yv.assign rfl).yl ?_
              refine QOps.nil ?_
              refine ⟨k + 1, ?_, ?_, (SubE.cons rfl (SubE.cons rfl (SubE.cons rfl (SubE.cons rfl (SubE.cons (congrArg (fun z => some (Value.int .i64 z)) hnx) (SubE.cons rfl (SubE.cons rfl (SubE.nil _)))))))), (List.Sublist.refl _)⟩
              · show k + 1 ≤ _; omega
              · first | omega | (dsimp only; omega)
          · try replace hc4 := of_decide_eq_false hc4
            obtain rfl : k = ts1.length := by omega
            refine Run.exit ?_
            refine Run.seq ?_
            refine Run.seq ?_
            refine Run.quiet (by intro h; cases h) ?_
            refine QOps.st rfl rfl (Yv.assign rfl).yl ?_
            refine QOps.nil ?_
            refine Run.block ?_
            refine Run.loop (S := Nat) (fun s => match s with | i => i ≤ js1.length) (fun s => match s with | i => [(0, .slice A xs.length c), (4, .slice Aj1 js1.length cj1), (13, .int .i64 (sumIds ts1 (dayTo ts1 js1 who1 js1.length).towed ts1.length)), (14, .int .i64 (towSum js1 i)), (19, .int .i64 (i : Int))]) (fun s => match s with | i => [.row Aw1 cw1 3 1 who1.length (who1.flatMap intC), .row Aj1 cj1 51 5 js1.length (js1.flatMap Job.enc), .row At1 ct1 49 3 ts1.length (ts1.flatMap Tug.enc)]) (fun s => match s with | i => js1.length - i) 0 ?_ (SubE.cons rfl (SubE.cons rfl (SubE.cons rfl (SubE.cons rfl (SubE.cons rfl (SubE.nil _)))))) (List.Sublist.refl _) ?_
            · exact Nat.zero_le _
            · rintro i hi
              show Run _ _ _ _ _ [(0, .slice A xs.length c), (4, .slice Aj1 js1.length cj1), (13, .int .i64 (sumIds ts1 (dayTo ts1 js1 who1 js1.length).towed ts1.length)), (14, .int .i64 (towSum js1 i)), (19, .int .i64 (i : Int))] [.row Aw1 cw1 3 1 who1.length (who1.flatMap intC), .row Aj1 cj1 51 5 js1.length (js1.flatMap Job.enc), .row At1 ct1 49 3 ts1.length (ts1.flatMap Tug.enc)] _
              refine Run.seq ?_
              refine Run.seq ?_
              refine Run.quiet (by intro h; cases h) ?_
              refine QOps.st rfl rfl (Yv.move rfl).yl ?_
              refine QOps.st rfl rfl (Yv.move rfl).yl ?_
              refine QOps.st rfl rfl (Yv.lenS el42s rfl).yl ?_
              refine QOps.st rfl rfl (Yv.lss rfl rfl).yl ?_
              refine QOps.nil ?_
              refine Run.cond rfl (fun hc6 => ?_) (fun hc6 => ?_)
              · try replace hc6 := of_decide_eq_true hc6
                have hje := hJ.each i (by omega)
                have hsm := towSum_in hJ (show i ≤ js1.length by omega)
                refine Run.skip ?_
                refine Run.seq ?_
                refine Run.block ?_
                refine Run.seq ?_
                refine Run.quiet (fun _ => ⟨by kernel_rfl, by kernel_rfl⟩) ?_
                refine QOps.st rfl rfl (Yv.move rfl).yl ?_
                refine QOps.st rfl rfl (Yv.move rfl).yl ?_
                refine QOps.st rfl rfl (Yv.indexAddr i el42 rfl rfl rfl (Rd.row (i := 1) rfl) (by omega)).yl ?_
                refine QOps.st rfl rfl (Yv.fieldAddr fld51_2 rfl).yl ?_
                refine QOps.st rfl rfl (Yv.loadF lay3 rfl Job.len (Rd.row (i := 1) rfl) (by first | omega | (simp; omega)) (by decide) rfl).yl ?_
                refine QOps.st rfl rfl (Yv.move rfl).yl ?_
                refine QOps.st rfl rfl (Yv.move rfl).yl ?_
                refine QOps.st rfl rfl (Yv.indexAddr i el42 rfl rfl rfl (Rd.row (i := 1) rfl) (by omega)).yl ?_
                refine QOps.st rfl rfl (Yv.fieldAddr fld51_1 rfl).yl ?_
                refine QOps.st rfl rfl (Yv.loadF lay3 rfl Job.len (Rd.row (i := 1) rfl) (by first | omega | (simp; omega)) (by decide) rfl).yl ?_
                refine QOps.st rfl rfl (Yv.gtr rfl rfl).yl ?_
                refine QOps.nil ?_
                refine Run.cond rfl (fun hc7 => ?_) (fun hc7 => ?_)
                · try replace hc7 := of_decide_eq_true hc7
                  have hnx := towSum_up hc7
                  refine Run.quiet (fun _ => ⟨by kernel_rfl, by kernel_rfl⟩) ?_
                  refine QOps.st rfl rfl (Yv.move rfl).yl ?_
                  refine QOps.st rfl rfl (Yv.move rfl).yl ?_
                  refine QOps.st rfl rfl (Yv.move rfl).yl ?_
                  refine QOps.st rfl rfl (Yv.indexAddr i el42 rfl rfl rfl (Rd.row (i := 1) rfl) (by omega)).yl ?_
                  refine QOps.st rfl rfl (Yv.fieldAddr fld51_2 rfl).yl ?_
                  refine QOps.st rfl rfl (Yv.loadF lay3 rfl Job.len (Rd.row (i := 1) rfl) (by first | omega | (simp; omega)) (by decide) rfl).yl ?_
                  refine QOps.st rfl rfl (Yv.add rfl rfl (by omega)).yl ?_
                  refine QOps.st rfl rfl (Yv.move rfl).yl ?_
                  refine QOps.st rfl rfl (Yv.move rfl).yl ?_
                  refine QOps.st rfl rfl (Yv.indexAddr i el42 rfl rfl rfl (Rd.row (i := 1) rfl) (by omega)).yl ?_
                  refine QOps.st rfl rfl (Yv.fieldAddr fld51_1 rfl).yl ?_
                  refine QOps.st rfl rfl (Yv.loadF lay3 rfl Job.len (Rd.row (i := 1) rfl) (by first | omega | (simp; omega)) (by decide) rfl).yl ?_
                  refine QOps.st rfl rfl (Yv.sub rfl rfl (by omega)).yl ?_
                  refine QOps.st rfl rfl (Yv.assign rfl).yl ?_
                  refine QOps.nil ?_
                  refine Run.quiet (by intro h; cases h) ?_
                  refine QOps.st rfl rfl (Yv.move rfl).yl ?_
                  refine QOps.st rfl rfl (Yv.succN rfl rfl (by omega)).yl ?_
                  refine QOps.st rfl rfl (Yv.assign rfl).yl ?_
                  refine QOps.nil ?_
                  refine ⟨i + 1, ?_, ?_, (SubE.cons rfl (SubE.cons rfl (SubE.cons rfl (SubE.cons (congrArg (fun z => some (Value.int .i64 z)) hnx) (SubE.cons rfl (SubE.nil _)))))), (List.Sublist.refl _)⟩
                  · show i + 1 ≤ _; omega
                  · first | omega | (dsimp only; omega)
                · try replace hc7 := of_decide_eq_false hc7
                  have hnx := towSum_dn hc7
                  refine Run.quiet (fun _ => ⟨by kernel_rfl, by kernel_rfl⟩) ?_
                  refine QOps.st rfl rfl (Yv.move rfl).yl ?_
                  refine QOps.st rfl rfl (Yv.move rfl).yl ?_
                  refine QOps.st rfl rfl (Yv.move rfl).yl ?_
                  refine QOps.st rfl rfl (Yv.indexAddr i el42 rfl rfl rfl (Rd.row (i := 1) rfl) (by omega)).yl ?_
                  refine QOps.st rfl rfl (Yv.fieldAddr fld51_1 rfl).yl ?_
                  refine QOps.st rfl rfl (Yv.loadF lay3 rfl Job.len (Rd.row (i := 1) rfl) (by first | omega | (simp; omega)) (by decide) rfl).yl ?_
                  refine QOps.st rfl rfl (Yv.add rfl rfl (by omega)).yl ?_
                  refine QOps.st rfl rfl (Yv.move rfl).yl ?_
                  refine QOps.st rfl rfl (Yv.move rfl).yl ?_
                  refine QOps.st rfl rfl (Yv.indexAddr i el42 rfl rfl rfl (Rd.row (i := 1) rfl) (by omega)).yl ?_
                  refine QOps.st rfl rfl (Yv.fieldAddr fld51_2 rfl).yl ?_
                  refine QOps.st rfl rfl (Yv.loadF lay3 rfl Job.len (Rd.row (i := 1) rfl) (by first | omega | (simp; omega)) (by decide) rfl).yl ?_
                  refine QOps.st rfl rfl (Yv.sub rfl rfl (by omega)).yl ?_
                  refine QOps.st rfl rfl (Yv.assign rfl).yl ?_
                  refine QOps.nil ?_
                  refine Run.quiet (by intro h; cases h) ?_
                  refine QOps.st rfl rfl (Yv.move rfl).yl ?_
                  refine QOps.st rfl rfl (Yv.succN rfl rfl (by omega)).yl ?_
                  refine QOps.st rfl rfl (Yv.assign rfl).yl ?_
                  refine QOps.nil ?_
                  refine ⟨i + 1, ?_, ?_, (SubE.cons rfl (SubE.cons rfl (SubE.cons rfl (SubE.cons (congrArg (fun z => some (Value.int .i64 z)) hnx) (SubE.cons rfl (SubE.nil _)))))), (List.Sublist.refl _)⟩
                  · show i + 1 ≤ _; omega
                  · first | omega | (dsimp only; omega)
              · try replace hc6 := of_decide_eq_false hc6
                obtain rfl : i = js1.length := by omega
                refine Run.exit ?_
                refine Run.seq ?_
                refine Run.quiet (by intro h; cases h) ?_
                refine QOps.st rfl rfl (Yv.move rfl).yl ?_
                refine QOps.st rfl rfl (Yv.move rfl).yl ?_
                refine QOps.st rfl rfl (Yv.neI rfl rfl).yl ?_
                refine QOps.nil ?_
                refine Run.cond rfl (fun hc8 => ?_) (fun hc8 => ?_)
                · exfalso
                  rw [towed_sum hT (fun m hm => hW m (by omega))] at hc8
                  simp at hc8
                · try replace hc8 := of_decide_eq_false hc8
                  refine Run.skip ?_
                  refine Run.seq ?_
                  refine Run.ops ?_
                  refine SOps.st rfl rfl (Yv.move rfl).yl ?_
                  refine SOps.one rfl (One.callH (E := []) (H1 := [_, _, _]) rfl callable24 (.cons rfl (.nil)) [false, false, false] rfl rfl (fun w' hw' => DrawNearestTug_spec ((Rd.arg hs) w' hw')) ?_)
                  rintro ⟨At2, ct2, ts2, j2⟩ hts2
                  dsimp only at hts2
                  refine SOps.st rfl rfl (Yv.move rfl).yl ?_
                  refine SOps.st rfl rfl (Yv.extract rfl rfl).yl ?_
                  refine SOps.st rfl rfl (Yv.extract rfl rfl).yl ?_
                  refine SOps.one rfl (One.alloc rfl zero51 (fun b1 => ?_))
                  refine SOps.st rfl rfl (Yv.assign rfl).yl ?_
                  refine SOps.one rfl (One.store (i := 0) (off := 0) (vs := [_, _, _, _, _]) (cs' := [_, _, _, _, _]) (H' := [_, _, _, _, _]) lay51 rfl rfl rfl rfl rfl rfl rfl rfl rfl rfl ?_)
                  refine SOps.nil ?_
                  refine Run.seq ?_
                  refine Run.quiet (by intro h; cases h) ?_
                  refine QOps.st rfl rfl (Yv.move rfl).yl ?_
                  refine QOps.st rfl rfl (Yv.loadBs (i := 0) lay51 rfl rfl rfl rfl).yl ?_
                  refine QOps.st rfl rfl (Yl.call callable25 (.cons rfl (.cons rfl (.nil))) (fun w' hw' => NearestTug_spec ((Rd.row (i := 4) rfl) w' hw'))) ?_
                  refine QOps.st rfl rfl (Yv.move rfl).yl ?_
                  refine QOps.st rfl rfl (Yv.extract rfl rfl).yl ?_
                  refine QOps.st rfl rfl (Yv.extract rfl rfl).yl ?_
                  refine QOps.st rfl rfl (Yv.assign rfl).yl ?_
                  refine QOps.st rfl rfl (Yv.assign rfl).yl ?_
                  refine QOps.nil ?_
                  refine Run.seq ?_
                  refine Run.seq ?_
                  refine Run.quiet (by intro h; cases h) ?_
                  refine QOps.st rfl rfl (Yv.move rfl).yl ?_
                  refine QOps.st rfl rfl (Yv.loadBs (i := 0) lay51 rfl rfl rfl rfl).yl ?_
                  refine QOps.st rfl rfl (Yl.call callable26 (.cons rfl (.cons rfl (.nil))) (fun w' hw' => sNearestTug_spec ((Rd.row (i := 4) rfl) w' hw'))) ?_
                  refine QOps.st rfl rfl (Yv.move rfl).yl ?_
                  refine QOps.st rfl rfl (Yv.extract rfl rfl).yl ?_
                  refine QOps.st rfl rfl (Yv.extract rfl rfl).yl ?_
                  refine QOps.st rfl rfl (Yv.assign rfl).yl ?_
                  refine QOps.st rfl rfl (Yv.assign rfl).yl ?_
                  refine QOps.nil ?_
                  refine Run.seq ?_
                  refine Run.quiet (by intro h; cases h) ?_
                  refine QOps.st rfl rfl (Yv.move rfl).yl ?_
                  refine QOps.st rfl rfl (Yv.move rfl).yl ?_
                  refine QOps.st rfl rfl (Yv.neI rfl rfl).yl ?_
                  refine QOps.st rfl rfl (Yv.move rfl).yl ?_
                  refine' QOps.or [_, _, _] _ (.tmp 170) rfl rfl rfl rfl rfl rfl (fun hg3 => ?_) ?_
                  rotate_left
                  · try replace hg3 := of_decide_eq_false hg3
                    refine QOps.st rfl rfl (Yv.move rfl).yl ?_
                    refine QOps.st rfl rfl (Yv.move rfl).yl ?_
                    refine QOps.st rfl rfl (Yv.neB bool4 rfl rfl).yl ?_
                    exact QOps.nil rfl
                  refine QOps.nil ?_
                  refine Run.cond rfl (fun hc9 => ?_) (fun hc9 => ?_)
                  · exfalso
                    first | (simp at hc9; done) | (simp at hc9; omega)
                  · try replace hc9 := of_decide_eq_false hc9
                    refine Run.skip ?_
                    refine Run.seq ?_
                    refine Run.seq ?_
                    refine Run.quiet (by intro h; cases h) ?_
                    refine QOps.st rfl rfl (Yv.move rfl).yl ?_
                    refine QOps.nil ?_
                    refine Run.cond rfl (fun hc10 => ?_) (fun hc10 => ?_)
                    · try replace hc10 := of_decide_eq_true hc10
                      refine Run.seq ?_
                      refine Run.ops ?_
                      refine SOps.st rfl rfl (Yv.move rfl).yl ?_
                      refine SOps.st rfl rfl (Yv.fieldAddr fld51_3 rfl).yl ?_
                      refine SOps.st rfl rfl (Yv.loadB (i := 0) lay3 rfl rfl rfl rfl).yl ?_
                      refine SOps.one rfl (One.callRow rfl callable27 (.cons rfl (.cons rfl (.nil))) (fun w' hw' => StrongTugs_spec ((Rd.row (i := 4) rfl) w' hw')) (fun A31 c31 => ?_))
                      refine SOps.st rfl rfl (Yv.move rfl).yl ?_
                      refine SOps.st rfl rfl (Yv.extract rfl rfl).yl ?_
                      refine SOps.st rfl rfl (Yv.extract rfl rfl).yl ?_
                      refine SOps.st rfl rfl (Yv.assign rfl).yl ?_
                      refine SOps.st rfl rfl (Yv.assign rfl).yl ?_
                      refine SOps.nil ?_
                      refine Run.seq ?_
                      refine Run.quiet (by intro h; cases h) ?_
                      refine QOps.st rfl rfl (Yv.move rfl).yl ?_
                      refine QOps.st rfl rfl (Yv.not rfl).yl ?_
                      refine QOps.st rfl rfl (Yv.move rfl).yl ?_
                      refine' QOps.or [_, _, _, _] _ (.tmp 186) rfl rfl rfl rfl rfl rfl (fun hg4 => ?_) ?_
                      rotate_left
                      · try replace hg4 := of_decide_eq_false hg4
                        refine QOps.st rfl rfl (Yv.move rfl).yl ?_
                        refine QOps.st rfl rfl (Yv.move rfl).yl ?_
                        refine QOps.st rfl rfl (Yl.call callable28 (.cons rfl (.cons rfl (.nil))) (fun w' hw' => rHas_spec ((Rd.row (i := 0) rfl) w' hw'))) ?_
                        refine QOps.st rfl rfl (Yv.not rfl).yl ?_
                        exact QOps.nil rfl
                      refine QOps.nil ?_
                      refine Run.cond rfl (fun hc11 => ?_) (fun hc11 => ?_)
                      · exfalso
                        have h9 := near_strong hc10
                        rw [h9.1, hasB_yes h9.2] at hc11
                        simp at hc11
                      · try replace hc11 := of_decide_eq_false hc11
                        refine Run.skip ?_
                        refine Run.seq ?_
                        refine Run.ops ?_
                        refine SOps.st rfl rfl (Yv.move rfl).yl ?_
                        refine SOps.one rfl (One.callER rfl callable29 (.cons rfl (.nil)) (fun w' hw' => DrawStrongTugs_spec ((Rd.arg hs) w' hw')) ?_)
                        rintro ⟨ya1, yb1⟩ Aq1 cq1 hx1
                        try dsimp only at *
                        refine SOps.st rfl rfl (Yv.move rfl).yl ?_
                        refine SOps.st rfl rfl (Yv.extract rfl rfl).yl ?_
                        refine SOps.st rfl rfl (Yv.extract rfl rfl).yl ?_
                        refine SOps.st rfl rfl (Yv.assign rfl).yl ?_
                        refine SOps.st rfl rfl (Yv.assign rfl).yl ?_
                        refine SOps.nil ?_
                        refine Run.seq ?_
                        refine Run.ops ?_
                        refine SOps.st rfl rfl (Yv.move rfl).yl ?_
                        refine SOps.st rfl rfl (Yv.move rfl).yl ?_
                        refine SOps.one rfl (One.callRow rfl callable27 (.cons rfl (.cons rfl (.nil))) (fun w' hw' => StrongTugs_spec ((Rd.row (i := 0) rfl) w' hw')) (fun A32 c32 => ?_))
                        refine SOps.st rfl rfl (Yv.move rfl).yl ?_
                        refine SOps.st rfl rfl (Yv.extract rfl rfl).yl ?_
                        refine SOps.st rfl rfl (Yv.extract rfl rfl).yl ?_
                        refine SOps.st rfl rfl (Yv.assign rfl).yl ?_
                        refine SOps.st rfl rfl (Yv.assign rfl).yl ?_
                        refine SOps.nil ?_
                        refine Run.seq ?_
                        refine Run.seq ?_
                        refine Run.ops ?_
                        refine SOps.st rfl rfl (Yv.move rfl).yl ?_
                        refine SOps.st rfl rfl (Yv.move rfl).yl ?_
                        refine SOps.one rfl (One.callRow rfl callable30 (.cons rfl (.cons rfl (.nil))) (fun w' hw' => sStrongTugs_spec ((Rd.row (i := 1) rfl) w' hw')) (fun A33 c33 => ?_))
                        refine SOps.st rfl rfl (Yv.move rfl).yl ?_
                        refine SOps.st rfl rfl (Yv.extract rfl rfl).yl ?_
                        refine SOps.st rfl rfl (Yv.extract rfl rfl).yl ?_
                        refine SOps.st rfl rfl (Yv.assign rfl).yl ?_
                        refine SOps.st rfl rfl (Yv.assign rfl).yl ?_
                        refine SOps.nil ?_
                        refine Run.seq ?_
                        refine Run.quiet (by intro h; cases h) ?_
                        refine QOps.st rfl rfl (Yv.move rfl).yl ?_
                        refine QOps.st rfl rfl (Yv.move rfl).yl ?_
                        refine QOps.st rfl rfl (Yv.neB bool4 rfl rfl).yl ?_
                        refine QOps.st rfl rfl (Yv.move rfl).yl ?_
                        refine' QOps.or [_, _, _, _] _ (.tmp 212) rfl rfl rfl rfl rfl rfl (fun hg5 => ?_) ?_
                        rotate_left
                        · try replace hg5 := of_decide_eq_false hg5
                          refine QOps.st rfl rfl (Yv.move rfl).yl ?_
                          refine QOps.st rfl rfl (Yv.move rfl).yl ?_
                          refine QOps.st rfl rfl (Yl.call callable31 (.cons rfl (.cons rfl (.nil))) (fun w' hw' => rInts_spec ((Rd.row (i := 1) rfl) w' hw') ((Rd.row (i := 0) rfl) w' hw'))) ?_
                          refine QOps.st rfl rfl (Yv.not rfl).yl ?_
                          exact QOps.nil rfl
                        refine QOps.nil ?_
                        refine Run.cond rfl (fun hc12 => ?_) (fun hc12 => ?_)
                        · exfalso
                          first | (simp at hc12; done) | (simp at hc12; omega)
                        · try replace hc12 := of_decide_eq_false hc12
                          refine Run.skip ?_
                          refine Run.seq ?_
                          refine Run.ops ?_
                          refine SOps.st rfl rfl (Yv.move rfl).yl ?_
                          refine SOps.one rfl (One.callER rfl callable32 (.cons rfl (.nil)) (fun w' hw' => DrawAreTugs_spec ((Rd.arg hs) w' hw')) ?_)
                          rintro ya2 Aq2 cq2 hx2
                          try dsimp only at *
                          refine SOps.st rfl rfl (Yv.move rfl).yl ?_
                          refine SOps.one rfl (One.callER rfl callable33 (.cons rfl (.nil)) (fun w' hw' => DrawAreTugJobs_spec ((Rd.arg hs) w' hw')) ?_)
                          rintro ya3 Aq3 cq3 hx3
                          try dsimp only at *
                          refine SOps.st rfl rfl (Yv.assign rfl).yl ?_
                          refine SOps.st rfl rfl (Yv.assign rfl).yl ?_
                          refine SOps.nil ?_
                          refine Run.seq ?_
                          refine Run.quiet (by intro h; cases h) ?_
                          refine QOps.st rfl rfl (Yv.move rfl).yl ?_
                          refine QOps.st rfl rfl (Yl.call callable34 (.cons rfl (.nil)) (fun w' hw' => AreTugs_spec ((Rd.row (i := 1) rfl) w' hw'))) ?_
                          refine QOps.st rfl rfl (Yv.move rfl).yl ?_
                          refine QOps.st rfl rfl (Yl.call callable35 (.cons rfl (.nil)) (fun w' hw' => sAreTugs_spec ((Rd.row (i := 1) rfl) w' hw'))) ?_
                          refine QOps.st rfl rfl (Yv.eqB bool4 rfl rfl).yl ?_
                          refine QOps.st rfl rfl (Yv.move rfl).yl ?_
                          refine' QOps.and [_, _, _, _, _] _ (.tmp 228) rfl rfl rfl rfl rfl rfl (fun hg6 => ?_) ?_
                          rotate_left
                          · try replace hg6 := of_decide_eq_true hg6
                            refine QOps.st rfl rfl (Yv.move rfl).yl ?_
                            refine QOps.st rfl rfl (Yl.call callable36 (.cons rfl (.nil)) (fun w' hw' => AreTugJobs_spec ((Rd.row (i := 0) rfl) w' hw'))) ?_
                            refine QOps.st rfl rfl (Yv.move rfl).yl ?_
                            refine QOps.st rfl rfl (Yl.call callable37 (.cons rfl (.nil)) (fun w' hw' => sAreTugJobs_spec ((Rd.row (i := 0) rfl) w' hw'))) ?_
                            refine QOps.st rfl rfl (Yv.eqB bool4 rfl rfl).yl ?_
                            exact QOps.nil rfl
                          refine QOps.st rfl rfl (Yv.assign rfl).yl ?_
                          refine QOps.nil ?_
                          refine Run.ret ?_
                          refine retQ.of (.inr rfl) rfl (.tmp rfl .nil) (fun w' hw' => ?_)
                          refine ⟨?_, hw'.bel.below⟩
                          refine retB_eq ?_
                          simp
                    · try replace hc10 := of_decide_eq_false hc10
                      refine Run.skip ?_
                      refine Run.seq ?_
                      refine Run.ops ?_
                      refine SOps.st rfl rfl (Yv.move rfl).yl ?_
                      refine SOps.one rfl (One.callER rfl callable29 (.cons rfl (.nil)) (fun w' hw' => DrawStrongTugs_spec ((Rd.arg hs) w' hw')) ?_)
                      rintro ⟨ya4, yb4⟩ Aq4 cq4 hx4
                      try dsimp only at *
                      refine SOps.st rfl rfl (Yv.move rfl).yl ?_
                      refine SOps.st rfl rfl (Yv.extract rfl rfl).yl ?_
                      refine SOps.st rfl rfl (Yv.extract rfl rfl).yl ?_
                      refine SOps.st rfl rfl (Yv.assign rfl).yl ?_
                      refine SOps.st rfl rfl (Yv.assign rfl).yl ?_
                      refine SOps.nil ?_
                      refine Run.seq ?_
                      refine Run.ops ?_
                      refine SOps.st rfl rfl (Yv.move rfl).yl ?_
                      refine SOps.st rfl rfl (Yv.move rfl).yl ?_
                      refine SOps.one rfl (One.callRow rfl callable27 (.cons rfl (.cons rfl (.nil))) (fun w' hw' => StrongTugs_spec ((Rd.row (i := 0) rfl) w' hw')) (fun A34 c34 => ?_))
                      refine SOps.st rfl rfl (Yv.move rfl).yl ?_
                      refine SOps.st rfl rfl (Yv.extract rfl rfl).yl ?_
                      refine SOps.st rfl rfl (Yv.extract rfl rfl).yl ?_
                      refine SOps.st rfl rfl (Yv.assign rfl).yl ?_
                      refine SOps.st rfl rfl (Yv.assign rfl).yl ?_
                      refine SOps.nil ?_
                      refine Run.seq ?_
                      refine Run.seq ?_
                      refine Run.ops ?_
                      refine SOps.st rfl rfl (Yv.move rfl).yl ?_
                      refine SOps.st rfl rfl (Yv.move rfl).yl ?_
                      refine SOps.one rfl (One.callRow rfl callable30 (.cons rfl (.cons rfl (.nil))) (fun w' hw' => sStrongTugs_spec ((Rd.row (i := 1) rfl) w' hw')) (fun A35 c35 => ?_))
                      refine SOps.st rfl rfl (Yv.move rfl).yl ?_
                      refine SOps.st rfl rfl (Yv.extract rfl rfl).yl ?_
                      refine SOps.st rfl rfl (Yv.extract rfl rfl).yl ?_
                      refine SOps.st rfl rfl (Yv.assign rfl).yl ?_
                      refine SOps.st rfl rfl (Yv.assign rfl).yl ?_
                      refine SOps.nil ?_
                      refine Run.seq ?_
                      refine Run.quiet (by intro h; cases h) ?_
                      refine QOps.st rfl rfl (Yv.move rfl).yl ?_
                      refine QOps.st rfl rfl (Yv.move rfl).yl ?_
                      refine QOps.st rfl rfl (Yv.neB bool4 rfl rfl).yl ?_
                      refine QOps.st rfl rfl (Yv.move rfl).yl ?_
                      refine' QOps.or [_, _, _, _] _ (.tmp 212) rfl rfl rfl rfl rfl rfl (fun hg7 => ?_) ?_
                      rotate_left
                      · try replace hg7 := of_decide_eq_false hg7
                        refine QOps.st rfl rfl (Yv.move rfl).yl ?_
                        refine QOps.st rfl rfl (Yv.move rfl).yl ?_
                        refine QOps.st rfl rfl (Yl.call callable31 (.cons rfl (.cons rfl (.nil))) (fun w' hw' => rInts_spec ((Rd.row (i := 1) rfl) w' hw') ((Rd.row (i := 0) rfl) w' hw'))) ?_
                        refine QOps.st rfl rfl (Yv.not rfl).yl ?_
                        exact QOps.nil rfl
                      refine QOps.nil ?_
                      refine Run.cond rfl (fun hc13 => ?_) (fun hc13 => ?_)
                      · exfalso
                        first | (simp at hc13; done) | (simp at hc13; omega)
                      · try replace hc13 := of_decide_eq_false hc13
                        refine Run.skip ?_
                        refine Run.seq ?_
                        refine Run.ops ?_
                        refine SOps.st rfl rfl (Yv.move rfl).yl ?_
                        refine SOps.one rfl (One.callER rfl callable32 (.cons rfl (.nil)) (fun w' hw' => DrawAreTugs_spec ((Rd.arg hs) w' hw')) ?_)
                        rintro ya5 Aq5 cq5 hx5
                        try dsimp only at *
                        refine SOps.st rfl rfl (Yv.move rfl).yl ?_
                        refine SOps.one rfl (One.callER rfl callable33 (.cons rfl (.nil)) (fun w' hw' => DrawAreTugJobs_spec ((Rd.arg hs) w' hw')) ?_)
                        rintro ya6 Aq6 cq6 hx6
                        try dsimp only at *
                        refine SOps.st rfl rfl (Yv.assign rfl).yl ?_
                        refine SOps.st rfl rfl (Yv.assign rfl).yl ?_
                        refine SOps.nil ?_
                        refine Run.seq ?_
                        refine Run.quiet (by intro h; cases h) ?_
                        refine QOps.st rfl rfl (Yv.move rfl).yl ?_
                        refine QOps.st rfl rfl (Yl.call callable34 (.cons rfl (.nil)) (fun w' hw' => AreTugs_spec ((Rd.row (i := 1) rfl) w' hw'))) ?_
                        refine QOps.st rfl rfl (Yv.move rfl).yl ?_
                        refine QOps.st rfl rfl (Yl.call callable35 (.cons rfl (.nil)) (fun w' hw' => sAreTugs_spec ((Rd.row (i := 1) rfl) w' hw'))) ?_
                        refine QOps.st rfl rfl (Yv.eqB bool4 rfl rfl).yl ?_
                        refine QOps.st rfl rfl (Yv.move rfl).yl ?_
                        refine' QOps.and [_, _, _, _, _] _ (.tmp 228) rfl rfl rfl rfl rfl rfl (fun hg8 => ?_) ?_
                        rotate_left
                        · try replace hg8 := of_decide_eq_true hg8
                          refine QOps.st rfl rfl (Yv.move rfl).yl ?_
                          refine QOps.st rfl rfl (Yl.call callable36 (.cons rfl (.nil)) (fun w' hw' => AreTugJobs_spec ((Rd.row (i := 0) rfl) w' hw'))) ?_
                          refine QOps.st rfl rfl (Yv.move rfl).yl ?_
                          refine QOps.st rfl rfl (Yl.call callable37 (.cons rfl (.nil)) (fun w' hw' => sAreTugJobs_spec ((Rd.row (i := 0) rfl) w' hw'))) ?_
                          refine QOps.st rfl rfl (Yv.eqB bool4 rfl rfl).yl ?_
                          exact QOps.nil rfl
                        refine QOps.st rfl rfl (Yv.assign rfl).yl ?_
                        refine QOps.nil ?_
                        refine Run.ret ?_
                        refine retQ.of (.inr rfl) rfl (.tmp rfl .nil) (fun w' hw' => ?_)
                        refine ⟨?_, hw'.bel.below⟩
                        refine retB_eq ?_
                        simp
      · try replace hc3 := of_decide_eq_false hc3
        refine Run.skip ?_
        refine Run.seq ?_
        refine Run.ops ?_
        refine SOps.st rfl rfl (Yv.move rfl).yl ?_
        refine SOps.one rfl (One.callH (E := []) (H1 := [_, _, _]) rfl callable24 (.cons rfl (.nil)) [false, false, false] rfl rfl (fun w' hw' => DrawNearestTug_spec ((Rd.arg hs) w' hw')) ?_)
        rintro ⟨At3, ct3, ts3, j3⟩ hts3
        dsimp only at hts3
        refine SOps.st rfl rfl (Yv.move rfl).yl ?_
        refine SOps.st rfl rfl (Yv.extract rfl rfl).yl ?_
        refine SOps.st rfl rfl (Yv.extract rfl rfl).yl ?_
        refine SOps.one rfl (One.alloc rfl zero51 (fun b2 => ?_))
        refine SOps.st rfl rfl (Yv.assign rfl).yl ?_
        refine SOps.one rfl (One.store (i := 0) (off := 0) (vs := [_, _, _, _, _]) (cs' := [_, _, _, _, _]) (H' := [_, _, _, _, _]) lay51 rfl rfl rfl rfl rfl rfl rfl rfl rfl rfl ?_)
        refine SOps.nil ?_
        refine Run.seq ?_
        refine Run.quiet (by intro h; cases h) ?_
        refine QOps.st rfl rfl (Yv.move rfl).yl ?_
        refine QOps.st rfl rfl (Yv.loadBs (i := 0) lay51 rfl rfl rfl rfl).yl ?_
        refine QOps.st rfl rfl (Yl.call callable25 (.cons rfl (.cons rfl (.nil))) (fun w' hw' => NearestTug_spec ((Rd.row (i := 4) rfl) w' hw'))) ?_
        refine QOps.st rfl rfl (Yv.move rfl).yl ?_
        refine QOps.st rfl rfl (Yv.extract rfl rfl).yl ?_
        refine QOps.st rfl rfl (Yv.extract rfl rfl).yl ?_
        refine QOps.st rfl rfl (Yv.assign rfl).yl ?_
        refine QOps.st rfl rfl (Yv.assign rfl).yl ?_
        refine QOps.nil ?_
        refine Run.seq ?_
        refine Run.seq ?_
        refine Run.quiet (by intro h; cases h) ?_
        refine QOps.st rfl rfl (Yv.move rfl).yl ?_
        refine QOps.st rfl rfl (Yv.loadBs (i := 0) lay51 rfl rfl rfl rfl).yl ?_
        refine QOps.st rfl rfl (Yl.call callable26 (.cons rfl (.cons rfl (.nil))) (fun w' hw' => sNearestTug_spec ((Rd.row (i := 4) rfl) w' hw'))) ?_
        refine QOps.st rfl rfl (Yv.move rfl).yl ?_
        refine QOps.st rfl rfl (Yv.extract rfl rfl).yl ?_
        refine QOps.st rfl rfl (Yv.extract rfl rfl).yl ?_
        refine QOps.st rfl rfl (Yv.assign rfl).yl ?_
        refine QOps.st rfl rfl (Yv.assign rfl).yl ?_
        refine QOps.nil ?_
        refine Run.seq ?_
        refine Run.quiet (by intro h; cases h) ?_
        refine QOps.st rfl rfl (Yv.move rfl).yl ?_
        refine QOps.st rfl rfl (Yv.move rfl).yl ?_
        refine QOps.st rfl rfl (Yv.neI rfl rfl).yl ?_
        refine QOps.st rfl rfl (Yv.move rfl).yl ?_
        refine' QOps.or [_, _, _] _ (.tmp 170) rfl rfl rfl rfl rfl rfl (fun hg9 => ?_) ?_
        rotate_left
        · try replace hg9 := of_decide_eq_false hg9
          refine QOps.st rfl rfl (Yv.move rfl).yl ?_
          refine QOps.st rfl rfl (Yv.move rfl).yl ?_
          refine QOps.st rfl rfl (Yv.neB bool4 rfl rfl).yl ?_
          exact QOps.nil rfl
        refine QOps.nil ?_
        refine Run.cond rfl (fun hc14 => ?_) (fun hc14 => ?_)
        · exfalso
          first | (simp at hc14; done) | (simp at hc14; omega)
        · try replace hc14 := of_decide_eq_false hc14
          refine Run.skip ?_
          refine Run.seq ?_
          refine Run.seq ?_
          refine Run.quiet (by intro h; cases h) ?_
          refine QOps.st rfl rfl (Yv.move rfl).yl ?_
          refine QOps.nil ?_
          refine Run.cond rfl (fun hc15 => ?_) (fun hc15 => ?_)
          · try replace hc15 := of_decide_eq_true hc15
            refine Run.seq ?_
            refine Run.ops ?_
            refine SOps.st rfl rfl (Yv.move rfl).yl ?_
            refine SOps.st rfl rfl (Yv.fieldAddr fld51_3 rfl).yl ?_
            refine SOps.st rfl rfl (Yv.loadB (i := 0) lay3 rfl rfl rfl rfl).yl ?_
            refine SOps.one rfl (One.callRow rfl callable27 (.cons rfl (.cons rfl (.nil))) (fun w' hw' => StrongTugs_spec ((Rd.row (i := 4) rfl) w' hw')) (fun A36 c36 => ?_))
            refine SOps.st rfl rfl (Yv.move rfl).yl ?_
            refine SOps.st rfl rfl (Yv.extract rfl rfl).yl ?_
            refine SOps.st rfl rfl (Yv.extract rfl rfl).yl ?_
            refine SOps.st rfl rfl (Yv.assign rfl).yl ?_
            refine SOps.st rfl rfl (Yv.assign rfl).yl ?_
            refine SOps.nil ?_
            refine Run.seq ?_
            refine Run.quiet (by intro h; cases h) ?_
            refine QOps.st rfl rfl (Yv.move rfl).yl ?_
            refine QOps.st rfl rfl (Yv.not rfl).yl ?_
            refine QOps.st rfl rfl (Yv.move rfl).yl ?_
            refine' QOps.or [_, _, _, _] _ (.tmp 186) rfl rfl rfl rfl rfl rfl (fun hg10 => ?_) ?_
            rotate_left
            · try replace hg10 := of_decide_eq_false hg10
              refine QOps.st rfl rfl (Yv.move rfl).yl ?_
              refine QOps.st rfl rfl (Yv.move rfl).yl ?_
              refine QOps.st rfl rfl (Yl.call callable28 (.cons rfl (.cons rfl (.nil))) (fun w' hw' => rHas_spec ((Rd.row (i := 0) rfl) w' hw'))) ?_
              refine QOps.st rfl rfl (Yv.not rfl).yl ?_
              exact QOps.nil rfl
            refine QOps.nil ?_
            refine Run.cond rfl (fun hc16 => ?_) (fun hc16 => ?_)
            · exfalso
              have h9 := near_strong hc15
              rw [h9.1, hasB_yes h9.2] at hc16
              simp at hc16
            · try replace hc16 := of_decide_eq_false hc16
              refine Run.skip ?_
              refine Run.seq ?_
              refine Run.ops ?_
              refine SOps.st rfl rfl (Yv.move rfl).yl ?_
              refine SOps.one rfl (One.callER rfl callable29 (.cons rfl (.nil)) (fun w' hw' => DrawStrongTugs_spec ((Rd.arg hs) w' hw')) ?_)
              rintro ⟨ya7, yb7⟩ Aq7 cq7 hx7
              try dsimp only at *
              refine SOps.st rfl rfl (Yv.move rfl).yl ?_
              refine SOps.st rfl rfl (Yv.extract rfl rfl).yl ?_
              refine SOps.st rfl rfl (Yv.extract rfl rfl).yl ?_
              refine SOps.st rfl rfl (Yv.assign rfl).yl ?_
              refine SOps.st rfl rfl (Yv.assign rfl).yl ?_
              refine SOps.nil ?_
              refine Run.seq ?_
              refine Run.ops ?_
              refine SOps.st rfl rfl (Yv.move rfl).yl ?_
              refine SOps.st rfl rfl (Yv.move rfl).yl ?_
              refine SOps.one rfl (One.callRow rfl callable27 (.cons rfl (.cons rfl (.nil))) (fun w' hw' => StrongTugs_spec ((Rd.row (i := 0) rfl) w' hw')) (fun A37 c37 => ?_))
              refine SOps.st rfl rfl (Yv.move rfl).yl ?_
              refine SOps.st rfl rfl (Yv.extract rfl rfl).yl ?_
              refine SOps.st rfl rfl (Yv.extract rfl rfl).yl ?_
              refine SOps.st rfl rfl (Yv.assign rfl).yl ?_
              refine SOps.st rfl rfl (Yv.assign rfl).yl ?_
              refine SOps.nil ?_
              refine Run.seq ?_
              refine Run.seq ?_
              refine Run.ops ?_
              refine SOps.st rfl rfl (Yv.move rfl).yl ?_
              refine SOps.st rfl rfl (Yv.move rfl).yl ?_
              refine SOps.one rfl (One.callRow rfl callable30 (.cons rfl (.cons rfl (.nil))) (fun w' hw' => sStrongTugs_spec ((Rd.row (i := 1) rfl) w' hw')) (fun A38 c38 => ?_))
              refine SOps.st rfl rfl (Yv.move rfl).yl ?_
              refine SOps.st rfl rfl (Yv.extract rfl rfl).yl ?_
              refine SOps.st rfl rfl (Yv.extract rfl rfl).yl ?_
              refine SOps.st rfl rfl (Yv.assign rfl).yl ?_
              refine SOps.st rfl rfl (Yv.assign rfl).yl ?_
              refine SOps.nil ?_
              refine Run.seq ?_
              refine Run.quiet (by intro h; cases h) ?_
              refine QOps.st rfl rfl (Yv.move rfl).yl ?_
              refine QOps.st rfl rfl (Yv.move rfl).yl ?_
              refine QOps.st rfl rfl (Yv.neB bool4 rfl rfl).yl ?_
              refine QOps.st rfl rfl (Yv.move rfl).yl ?_
              refine' QOps.or [_, _, _, _] _ (.tmp 212) rfl rfl rfl rfl rfl rfl (fun hg11 => ?_) ?_
              rotate_left
              · try replace hg11 := of_decide_eq_false hg11
                refine QOps.st rfl rfl (Yv.move rfl).yl ?_
                refine QOps.st rfl rfl (Yv.move rfl).yl ?_
                refine QOps.st rfl rfl (Yl.call callable31 (.cons rfl (.cons rfl (.nil))) (fun w' hw' => rInts_spec ((Rd.row (i := 1) rfl) w' hw') ((Rd.row (i := 0) rfl) w' hw'))) ?_
                refine QOps.st rfl rfl (Yv.not rfl).yl ?_
                exact QOps.nil rfl
              refine QOps.nil ?_
              refine Run.cond rfl (fun hc17 => ?_) (fun hc17 => ?_)
              · exfalso
                first | (simp at hc17; done) | (simp at hc17; omega)
              · try replace hc17 := of_decide_eq_false hc17
                refine Run.skip ?_
                refine Run.seq ?_
                refine Run.ops ?_
                refine SOps.st rfl rfl (Yv.move rfl).yl ?_
                refine SOps.one rfl (One.callER rfl callable32 (.cons rfl (.nil)) (fun w' hw' => DrawAreTugs_spec ((Rd.arg hs) w' hw')) ?_)
                rintro ya8 Aq8 cq8 hx8
                try dsimp only at *
                refine SOps.st rfl rfl (Yv.move rfl).yl ?_
                refine SOps.one rfl (One.callER rfl callable33 (.cons rfl (.nil)) (fun w' hw' => DrawAreTugJobs_spec ((Rd.arg hs) w' hw')) ?_)
                rintro ya9 Aq9 cq9 hx9
                try dsimp only at *
                refine SOps.st rfl rfl (Yv.assign rfl).yl ?_
                refine SOps.st rfl rfl (Yv.assign rfl).yl ?_
                refine SOps.nil ?_
                refine Run.seq ?_
                refine Run.quiet (by intro h; cases h) ?_
                refine QOps.st rfl rfl (Yv.move rfl).yl ?_
                refine QOps.st rfl rfl (Yl.call callable34 (.cons rfl (.nil)) (fun w' hw' => AreTugs_spec ((Rd.row (i := 1) rfl) w' hw'))) ?_
                refine QOps.st rfl rfl (Yv.move rfl).yl ?_
                refine QOps.st rfl rfl (Yl.call callable35 (.cons rfl (.nil)) (fun w' hw' => sAreTugs_spec ((Rd.row (i := 1) rfl) w' hw'))) ?_
                refine QOps.st rfl rfl (Yv.eqB bool4 rfl rfl).yl ?_
                refine QOps.st rfl rfl (Yv.move rfl).yl ?_
                refine' QOps.and [_, _, _, _, _] _ (.tmp 228) rfl rfl rfl rfl rfl rfl (fun hg12 => ?_) ?_
                rotate_left
                · try replace hg12 := of_decide_eq_true hg12
                  refine QOps.st rfl rfl (Yv.move rfl).yl ?_
                  refine QOps.st rfl rfl (Yl.call callable36 (.cons rfl (.nil)) (fun w' hw' => AreTugJobs_spec ((Rd.row (i := 0) rfl) w' hw'))) ?_
                  refine QOps.st rfl rfl (Yv.move rfl).yl ?_
                  refine QOps.st rfl rfl (Yl.call callable37 (.cons rfl (.nil)) (fun w' hw' => sAreTugJobs_spec ((Rd.row (i := 0) rfl) w' hw'))) ?_
                  refine QOps.st rfl rfl (Yv.eqB bool4 rfl rfl).yl ?_
                  exact QOps.nil rfl
                refine QOps.st rfl rfl (Yv.assign rfl).yl ?_
                refine QOps.nil ?_
                refine Run.ret ?_
                refine retQ.of (.inr rfl) rfl (.tmp rfl .nil) (fun w' hw' => ?_)
                refine ⟨?_, hw'.bel.below⟩
                refine retB_eq ?_
                simp
          · try replace hc15 := of_decide_eq_false hc15
            refine Run.skip ?_
            refine Run.seq ?_
            refine Run.ops ?_
            refine SOps.st rfl rfl (Yv.move rfl).yl ?_
            refine SOps.one rfl (One.callER rfl callable29 (.cons rfl (.nil)) (fun w' hw' => DrawStrongTugs_spec ((Rd.arg hs) w' hw')) ?_)
            rintro ⟨ya10, yb10⟩ Aq10 cq10 hx10
            try dsimp only at *
            refine SOps.st rfl rfl (Yv.move rfl).yl ?_
            refine SOps.st rfl rfl (Yv.extract rfl rfl).yl ?_
            refine SOps.st rfl rfl (Yv.extract rfl rfl).yl ?_
            refine SOps.st rfl rfl (Yv.assign rfl).yl ?_
            refine SOps.st rfl rfl (Yv.assign rfl).yl ?_
            refine SOps.nil ?_
            refine Run.seq ?_
            refine Run.ops ?_
            refine SOps.st rfl rfl (Yv.move rfl).yl ?_
            refine SOps.st rfl rfl (Yv.move rfl).yl ?_
            refine SOps.one rfl (One.callRow rfl callable27 (.cons rfl (.cons rfl (.nil))) (fun w' hw' => StrongTugs_spec ((Rd.row (i := 0) rfl) w' hw')) (fun A39 c39 => ?_))
            refine SOps.st rfl rfl (Yv.move rfl).yl ?_
            refine SOps.st rfl rfl (Yv.extract rfl rfl).yl ?_
            refine SOps.st rfl rfl (Yv.extract rfl rfl).yl ?_
            refine SOps.st rfl rfl (Yv.assign rfl).yl ?_
            refine SOps.st rfl rfl (Yv.assign rfl).yl ?_
            refine SOps.nil ?_
            refine Run.seq ?_
            refine Run.seq ?_
            refine Run.ops ?_
            refine SOps.st rfl rfl (Yv.move rfl).yl ?_
            refine SOps.st rfl rfl (Yv.move rfl).yl ?_
            refine SOps.one rfl (One.callRow rfl callable30 (.cons rfl (.cons rfl (.nil))) (fun w' hw' => sStrongTugs_spec ((Rd.row (i := 1) rfl) w' hw')) (fun A40 c40 => ?_))
            refine SOps.st rfl rfl (Yv.move rfl).yl ?_
            refine SOps.st rfl rfl (Yv.extract rfl rfl).yl ?_
            refine SOps.st rfl rfl (Yv.extract rfl rfl).yl ?_
            refine SOps.st rfl rfl (Yv.assign rfl).yl ?_
            refine SOps.st rfl rfl (Yv.assign rfl).yl ?_
            refine SOps.nil ?_
            refine Run.seq ?_
            refine Run.quiet (by intro h; cases h) ?_
            refine QOps.st rfl rfl (Yv.move rfl).yl ?_
            refine QOps.st rfl rfl (Yv.move rfl).yl ?_
            refine QOps.st rfl rfl (Yv.neB bool4 rfl rfl).yl ?_
            refine QOps.st rfl rfl (Yv.move rfl).yl ?_
            refine' QOps.or [_, _, _, _] _ (.tmp 212) rfl rfl rfl rfl rfl rfl (fun hg13 => ?_) ?_
            rotate_left
            · try replace hg13 := of_decide_eq_false hg13
              refine QOps.st rfl rfl (Yv.move rfl).yl ?_
              refine QOps.st rfl rfl (Yv.move rfl).yl ?_
              refine QOps.st rfl rfl (Yl.call callable31 (.cons rfl (.cons rfl (.nil))) (fun w' hw' => rInts_spec ((Rd.row (i := 1) rfl) w' hw') ((Rd.row (i := 0) rfl) w' hw'))) ?_
              refine QOps.st rfl rfl (Yv.not rfl).yl ?_
              exact QOps.nil rfl
            refine QOps.nil ?_
            refine Run.cond rfl (fun hc18 => ?_) (fun hc18 => ?_)
            · exfalso
              first | (simp at hc18; done) | (simp at hc18; omega)
            · try replace hc18 := of_decide_eq_false hc18
              refine Run.skip ?_
              refine Run.seq ?_
              refine Run.ops ?_
              refine SOps.st rfl rfl (Yv.move rfl).yl ?_
              refine SOps.one rfl (One.callER rfl callable32 (.cons rfl (.nil)) (fun w' hw' => DrawAreTugs_spec ((Rd.arg hs) w' hw')) ?_)
              rintro ya11 Aq11 cq11 hx11
              try dsimp only at *
              refine SOps.st rfl rfl (Yv.move rfl).yl ?_
              refine SOps.one rfl (One.callER rfl callable33 (.cons rfl (.nil)) (fun w' hw' => DrawAreTugJobs_spec ((Rd.arg hs) w' hw')) ?_)
              rintro ya12 Aq12 cq12 hx12
              try dsimp only at *
              refine SOps.st rfl rfl (Yv.assign rfl).yl ?_
              refine SOps.st rfl rfl (Yv.assign rfl).yl ?_
              refine SOps.nil ?_
              refine Run.seq ?_
              refine Run.quiet (by intro h; cases h) ?_
              refine QOps.st rfl rfl (Yv.move rfl).yl ?_
              refine QOps.st rfl rfl (Yl.call callable34 (.cons rfl (.nil)) (fun w' hw' => AreTugs_spec ((Rd.row (i := 1) rfl) w' hw'))) ?_
              refine QOps.st rfl rfl (Yv.move rfl).yl ?_
              refine QOps.st rfl rfl (Yl.call callable35 (.cons rfl (.nil)) (fun w' hw' => sAreTugs_spec ((Rd.row (i := 1) rfl) w' hw'))) ?_
              refine QOps.st rfl rfl (Yv.eqB bool4 rfl rfl).yl ?_
              refine QOps.st rfl rfl (Yv.move rfl).yl ?_
              refine' QOps.and [_, _, _, _, _] _ (.tmp 228) rfl rfl rfl rfl rfl rfl (fun hg14 => ?_) ?_
              rotate_left
              · try replace hg14 := of_decide_eq_true hg14
                refine QOps.st rfl rfl (Yv.move rfl).yl ?_
                refine QOps.st rfl rfl (Yl.call callable36 (.cons rfl (.nil)) (fun w' hw' => AreTugJobs_spec ((Rd.row (i := 0) rfl) w' hw'))) ?_
                refine QOps.st rfl rfl (Yv.move rfl).yl ?_
                refine QOps.st rfl rfl (Yl.call callable37 (.cons rfl (.nil)) (fun w' hw' => sAreTugJobs_spec ((Rd.row (i := 0) rfl) w' hw'))) ?_
                refine QOps.st rfl rfl (Yv.eqB bool4 rfl rfl).yl ?_
                exact QOps.nil rfl
              refine QOps.st rfl rfl (Yv.assign rfl).yl ?_
              refine QOps.nil ?_
              refine Run.ret ?_
              refine retQ.of (.inr rfl) rfl (.tmp rfl .nil) (fun w' hw' => ?_)
              refine ⟨?_, hw'.bel.below⟩
              refine retB_eq ?_
              simp
end Go.Proofs.Ytkkmmbogeeopaaa
