/- Fixes: the odd one out. Conditions: none. -/
import Derived.Test.YtliealfihglkmaaPos4
namespace Go.Proofs.Ytliealfihglkmaa
open Go.RowKit
set_option maxRecDepth 100000
theorem delFix_spec {w : World} {A : Option Addr} {c m i j : Nat} {l : List Fix} (hrow : (HEnt.row A c 49 3 m (l.flatMap Fix.enc)).ok w) (hl : l.length = m) (hij : i ≤ j) (hjm : j ≤ m) :
    Calls Try.prog 66 #[.slice A m c, .int .i64 (i : Int), .int .i64 (j : Int)] w (RetGrow w A 49 3 (i + (m - j)) ((l.take i ++ l.drop j).flatMap Fix.enc)) := by
  have hmc := (sl_of_row hrow).cap
  refine calls_of_run (vs := [_, _, _]) (L := [(0, _), (1, _), (2, _)]) (n := 33) (F := (A.map (·.block)).toList) (H := [_]) Try.func66 rfl rfl rfl rfl (HOk.borrowRow hrow) ?_
  refine Run.seq ?_
  refine Run.quiet (by intro h; cases h) ?_
  refine QOps.st rfl rfl (Yv.assign rfl).yl ?_
  refine QOps.nil ?_
  refine Run.seq ?_
  refine Run.quiet (by intro h; cases h) ?_
  refine QOps.st rfl rfl (Yv.move rfl).yl ?_
  refine QOps.st rfl rfl (Yv.move rfl).yl ?_
  refine QOps.st rfl rfl (Yv.move rfl).yl ?_
  refine QOps.st rfl rfl (Yv.move rfl).yl ?_
  refine QOps.st rfl rfl (Yv.lenS el25s rfl).yl ?_
  refine QOps.st rfl rfl (Yv.cut3 (i) (j) (m) el25 rfl rfl rfl rfl rfl rfl rfl (by omega) (by omega) (by omega)).yl ?_
  refine QOps.nil ?_
  refine Run.seq ?_
  refine Run.seq ?_
  refine Run.quiet (by intro h; cases h) ?_
  refine QOps.st rfl rfl (Yv.move rfl).yl ?_
  refine QOps.st rfl rfl (Yv.move rfl).yl ?_
  refine QOps.st rfl rfl (Yv.eqI rfl rfl).yl ?_
  refine QOps.nil ?_
  refine Run.cond rfl (fun hc1 => ?_) (fun hc1 => ?_)
  · try replace hc1 := of_decide_eq_true hc1
    refine Run.seq ?_
    refine Run.quiet (by intro h; cases h) ?_
    refine QOps.st rfl rfl (Yv.move rfl).yl ?_
    refine QOps.st rfl rfl (Yv.assign rfl).yl ?_
    refine QOps.nil ?_
    refine Run.ret ?_
    refine retQ.of (.inr rfl) rfl (.tmp rfl .nil) (fun w' hw' => ?_)
    have hij' : i = j := by omega
    subst hij'
    have e1 : i + (m - i) = m := by omega
    rw [e1, List.take_append_drop]
    exact retGrow_same hw'.bel (hw'.ent _ (List.mem_of_getElem? (i := 0) rfl))
  · try replace hc1 := of_decide_eq_false hc1
    refine Run.skip ?_
    refine Run.seq ?_
    refine Run.quiet (by intro h; cases h) ?_
    refine QOps.st rfl rfl (Yv.move rfl).yl ?_
    refine QOps.st rfl rfl (Yv.lenS el25s rfl).yl ?_
    refine QOps.st rfl rfl (Yv.assign rfl).yl ?_
    refine QOps.nil ?_
    refine Run.seq ?_
    refine Run.draws (fun H => (H).eraseIdx 0) (m := 8) (listed := #[false, false, false, false, false, false, false, false]) (by kernel_rfl) rfl rfl ?_
    refine DOps.take (listed' := #[true, false, false, false, false, false, false, false]) 0 rfl (by kernel_rfl) rfl (List.nil_sublist _) rfl rfl (Yv.move rfl) ?_
    refine DOps.take (listed' := #[true, true, false, false, false, false, false, false]) 1 rfl (by kernel_rfl) rfl (List.nil_sublist _) rfl rfl (Yv.move rfl) ?_
    refine DOps.take (listed' := #[true, true, true, false, false, false, false, false]) 2 rfl (by kernel_rfl) rfl (List.nil_sublist _) rfl rfl (Yv.cutTo0 i el25 rfl rfl rfl (by omega)) ?_
    refine DOps.take (listed' := #[true, true, true, true, false, false, false, false]) 3 rfl (by kernel_rfl) rfl (List.nil_sublist _) rfl rfl (Yv.move rfl) ?_
    refine DOps.take (listed' := #[true, true, true, true, true, false, false, false]) 4 rfl (by kernel_rfl) rfl (List.nil_sublist _) rfl rfl (Yv.move rfl) ?_
    refine DOps.take (listed' := #[true, true, true, true, true, true, false, false]) 5 rfl (by kernel_rfl) rfl (List.nil_sublist _) rfl rfl (Yv.cutFrom j el25 rfl rfl rfl (by omega)) ?_
    refine DOps.only (listed' := #[true, true, true, true, true, true, true, false]) 6 rfl (by kernel_rfl) rfl rfl ?_
    refine One.appendIn (enc := Fix.enc) (l := l) (l2 := (l.drop j)) (m' := (i + (m - j))) (i := 0) (H' := [_]) rfl el25 Fix.len rfl rfl rfl (Rd.cutF (xs := l) Fix.len (Rd.row (i := 0) rfl) hl (by omega)) (by simp; omega) (fun _ => rfl) rfl (by omega) rfl ?_
    refine ⟨(List.nil_sublist _), ?_⟩
    refine DOps.take (listed' := #[true, true, true, true, true, true, true, true]) 7 rfl (by kernel_rfl) rfl (List.nil_sublist _) rfl rfl (Yv.assign rfl) ?_
    refine DOps.done (by kernel_rfl) ?_
    refine Run.seq ?_
    refine Run.ops ?_
    refine SOps.st rfl rfl (Yv.move rfl).yl ?_
    refine SOps.st rfl rfl (Yv.move rfl).yl ?_
    refine SOps.st rfl rfl (Yv.lenS el25s rfl).yl ?_
    refine SOps.st rfl rfl (Yv.move rfl).yl ?_
    refine SOps.st rfl rfl (Yv.cutBoth ((i + (m - j))) m el25 rfl rfl rfl rfl rfl (by omega) (by omega)).yl ?_
    refine SOps.one rfl (One.clear (enc := Fix.enc) (z := default) (l := (l.take i ++ (l.drop j) ++ l.drop (i + (m - j)))) (o := ((i + (m - j)))) (i := 0) (H' := [_]) el25 zero49 rfl Fix.len rfl rfl (fun hk => cutA_at (by omega)) rfl (by omega) rfl ?_)
    refine SOps.nil ?_
    refine Run.seq ?_
    refine Run.quiet (by intro h; cases h) ?_
    refine QOps.st rfl rfl (Yv.move rfl).yl ?_
    refine QOps.st rfl rfl (Yv.assign rfl).yl ?_
    refine QOps.nil ?_
    refine Run.ret ?_
    refine retQ.of (.inr rfl) rfl (.tmp rfl .nil) (fun w' hw' => ?_)
    have h3 := row_less' (m' := i + (m - j)) Fix.len (hw'.ent _ (List.mem_of_getElem? (i := 0) rfl)) (by omega)
    have e2 := del_take (z := (default : Fix)) (l := l) (i := i) (j := j) (m := m) hl hij hjm
    rw [e2] at h3
    exact retGrow_same hw'.bel h3

theorem Clone_spec {w : World} {A : Option Addr} {c : Nat} {fs : List Fix} (hs : Sl w 3 A fs.length c (fs.flatMap Fix.enc)) (h0 : 0 < fs.length) (h1 : fs.length ≤ 1048576) :
    Calls Try.prog 67 #[.slice A fs.length c] w (RetRow w 49 3 fs.length (fs.flatMap Fix.enc) (fun v => v)) := by
  obtain ⟨ad, rfl⟩ := Option.isSome_iff_exists.1 (hs.at_ h0).1
  refine calls_of_run (vs := [_]) (L := [(0, _)]) (n := 8) (F := []) (H := []) Try.func67 rfl rfl rfl rfl (HOk.start _) ?_
  refine Run.seq ?_
  refine Run.quiet (by intro h; cases h) ?_
  refine QOps.st rfl rfl (Yv.assign rfl).yl ?_
  refine QOps.nil ?_
  refine Run.seq ?_
  refine Run.seq ?_
  refine Run.quiet (by intro h; cases h) ?_
  refine QOps.st rfl rfl (Yv.move rfl).yl ?_
  refine QOps.st rfl rfl (Yv.eqNil el25 rfl rfl).yl ?_
  refine QOps.nil ?_
  refine Run.cond rfl (fun hc1 => ?_) (fun hc1 => ?_)
  · exfalso
    simp at hc1
  · try replace hc1 := of_decide_eq_false hc1
    refine Run.skip ?_
    refine Run.seq ?_
    refine Run.ops ?_
    refine SOps.one rfl (One.buildSliceG (pv := []) (cs := []) (fun _ => []) rfl el25 .nil rfl rfl (by kernel_rfl) rfl rfl (fun b1 => ?_))
    refine SOps.st rfl rfl (Yv.move rfl).yl ?_
    refine SOps.one rfl (One.append (enc := Fix.enc) (l := ([] : List Fix)) (l2 := fs) (m' := fs.length) (i := 0) (H' := fun A c => [_]) rfl el25 zero49 rfl (by decide) rfl rfl rfl (Rd.arg hs) (fun _ => rfl) (by simp) (by omega) (by omega) (fun _ _ => rfl) (fun A1 c1 => ?_))
    refine SOps.st rfl rfl (Yv.assign rfl).yl ?_
    refine SOps.nil ?_
    refine Run.ret ?_
    refine retQ.of (.inr rfl) rfl (.tmp rfl .nil) (fun w' hw' => ?_)
    exact ⟨_, _, rfl, hw'.bel.below, hw'.ent _ (List.mem_of_getElem? (i := 0) rfl), fun g hg => (hw'.own _ (List.mem_of_getElem? (i := 0) rfl) g hg).elim id (by simp)⟩
def without (fs : List Fix) (i : Nat) : List Fix := fs.take i ++ fs.drop (i + 1)
theorem without_len {fs : List Fix} {i : Nat} (h : i < fs.length) : (without fs i).length = i + (fs.length - (i + 1)) := by simp [without]; omega
theorem without_ok {fs : List Fix} {i : Nat} (h : AllOk fs) : AllOk (without fs i) := fun k hk => by
  have hm : nth (without fs i) k ∈ fs := by
    have h1 : nth (without fs i) k ∈ without fs i := List.mem_of_getElem? (nth_get hk)
    rcases List.mem_append.1 h1 with h2 | h2
    · exact List.mem_of_mem_take h2
    · exact List.mem_of_mem_drop h2
  obtain ⟨j, hj, he⟩ := List.getElem_of_mem hm
  have h3 := h j hj
  rw [← he]
  simpa [nth, hj] using h3
theorem areConsistentN_spec {w : World} {A : Option Addr} {c n : Nat} {fs : List Fix} {pace : Int} (hn : fs.length = n) (hs : Sl w 3 A n c (fs.flatMap Fix.enc)) (hok : AllOk fs) (h1 : 0 ≤ pace) (h2 : pace ≤ 500) :
    Calls Try.prog 58 #[.slice A n c, .int .i64 pace] w (RetB w (.bool (consistent fs pace))) := by subst hn; exact areConsistent_spec hs hok h1 h2
theorem l21ConsistentN_spec {w : World} {A : Option Addr} {c n : Nat} {fs : List Fix} {pace : Int} (hn : fs.length = n) (hs : Sl w 3 A n c (fs.flatMap Fix.enc)) (hok : AllOk fs) (h1 : 0 ≤ pace) (h2 : pace ≤ 500) :
    Calls Try.prog 56 #[.slice A n c, .int .i64 pace] w (RetB w (.bool (consistent fs pace))) := by subst hn; exact l21Consistent_spec hs hok h1 h2
def oddAsked (fs : List Fix) (pace : Int) : Bool := areFixes fs && inB pace 0 500 && !consistent fs pace
def oddOf (fs : List Fix) (pace : Int) : Int × Bool := if oddAsked fs pace = true then (match firstTo fs.length (fun i => consistent (without fs i) pace) with | some k => ((k : Int), true) | none => (0, false)) else (0, false)
theorem oddAsked_parts {fs : List Fix} {pace : Int} (h : oddAsked fs pace = true) : areFixes fs = true ∧ 0 ≤ pace ∧ pace ≤ 500 := by
  simp only [oddAsked, Bool.and_eq_true, inB_iff] at h
  exact ⟨h.1.1, h.1.2⟩
theorem OddFix_spec {w : World} {A : Option Addr} {c : Nat} {fs : List Fix} {pace : Int} (hs : Sl w 3 A fs.length c (fs.flatMap Fix.enc)) :
    Calls Try.prog 29 #[.slice A fs.length c, .int .i64 pace] w (RetB w (.tuple #[.int .i64 (oddOf fs pace).1, .bool (oddOf fs pace).2])) := by
  have hmx := Sl.lenle hs
  have hcap := hs.cap
  refine calls_of_run (vs := [_, _]) (L := [(0, _), (1, _)]) (n := 31) (F := []) (H := []) Try.func29 rfl rfl rfl rfl (HOk.start _) ?_
  refine Run.seq ?_
  refine Run.quiet (by intro h; cases h) ?_
  refine QOps.st rfl rfl (Yv.assign rfl).yl ?_
  refine QOps.st rfl rfl (Yv.assign rfl).yl ?_
  refine QOps.nil ?_
  refine Run.seq ?_
  refine Run.seq ?_
  refine Run.quiet (by intro h; cases h) ?_
  refine QOps.st rfl rfl (Yv.move rfl).yl ?_
  refine QOps.st rfl rfl (Yv.move rfl).yl ?_
  refine QOps.st rfl rfl (Yl.call callable57 (.cons rfl (.cons rfl (.nil))) (fun w' hw' => isPace_spec ((Rd.arg hs) w' hw'))) ?_
  refine QOps.st rfl rfl (Yv.not rfl).yl ?_
  refine QOps.st rfl rfl (Yv.move rfl).yl ?_
  refine' QOps.or [_, _, _] _ (.tmp 14) rfl rfl rfl rfl rfl rfl (fun hg1 => ?_) ?_
  rotate_left
  · try replace hg1 := of_decide_eq_false hg1
    have hg3 : areFixes fs = true ∧ inB pace 0 500 = true := by revert hg1; cases areFixes fs <;> cases inB pace 0 500 <;> simp
    have hok := areFixes_all hg3.1
    have hpb := inB_iff.1 hg3.2
    refine QOps.st rfl rfl (Yv.move rfl).yl ?_
    refine QOps.st rfl rfl (Yv.move rfl).yl ?_
    refine QOps.st rfl rfl (Yl.call callable58 (.cons rfl (.cons rfl (.nil))) (fun w' hw' => areConsistent_spec ((Rd.arg hs) w' hw') (by assumption) (by omega) (by omega))) ?_
    exact QOps.nil rfl
  refine QOps.nil ?_
  refine Run.cond rfl (fun hc1 => ?_) (fun hc1 => ?_)
  · try replace hc1 := of_decide_eq_true hc1
    have hn : oddAsked fs pace = false := by unfold oddAsked; revert hc1; cases areFixes fs <;> cases inB pace 0 500 <;> cases consistent fs pace <;> simp
    refine Run.seq ?_
    refine Run.quiet (by intro h; cases h) ?_
    refine QOps.st rfl rfl (Yv.assign rfl).yl ?_
    refine QOps.st rfl rfl (Yv.assign rfl).yl ?_
    refine QOps.nil ?_
    refine Run.ret ?_
    refine retQ.of (.inr rfl) rfl (.tmp rfl (.tmp rfl .nil)) (fun w' hw' => ?_)
    refine ⟨?_, hw'.bel.below⟩
    unfold oddOf; rw [if_neg (by rw [hn]; simp)]; rfl
  · try replace hc1 := of_decide_eq_false hc1
    have hy : oddAsked fs pace = true := by unfold oddAsked; revert hc1; cases areFixes fs <;> cases inB pace 0 500 <;> cases consistent fs pace <;> simp
    have hq := oddAsked_parts hy
    have hall := areFixes_all hq.1
    have hlen := areFixes_ok hq.1
    refine Run.skip ?_
    refine Run.seq ?_
    refine Run.seq ?_
    refine Run.quiet (by intro h; cases h) ?_
    refine QOps.st rfl rfl (Yv.move rfl).yl ?_
    refine QOps.st rfl rfl (Yv.lenS el25s rfl).yl ?_
    refine QOps.st rfl rfl (Yv.move rfl).yl ?_
    refine QOps.nil ?_
    refine Run.block ?_
    refine Run.loop (S := Nat) (fun s => match s with | k => k ≤ fs.length ∧ ∀ i, i < k → consistent (without fs i) pace = false) (fun s => match s with | k => [(0, .slice A fs.length c), (1, .int .i64 pace), (17, .int .i64 (fs.length : Int)), (18, .int .i64 (k : Int))]) (fun s => match s with | k => []) (fun s => match s with | k => fs.length - k) 0 ?_ (SubE.cons rfl (SubE.cons rfl (SubE.cons rfl (SubE.cons rfl (SubE.nil _))))) (List.Sublist.refl _) ?_
    · exact ⟨by omega, fun i hi => by omega⟩
    · rintro k ⟨hk, hno⟩
      show Run _ _ _ _ _ [(0, .slice A fs.length c), (1, .int .i64 pace), (17, .int .i64 (fs.length : Int)), (18, .int .i64 (k : Int))] [] _
      refine Run.seq ?_
      refine Run.quiet (by intro h; cases h) ?_
      refine QOps.st rfl rfl (Yv.lss rfl rfl).yl ?_
      refine QOps.nil ?_
      refine Run.seq ?_
      refine Run.cond rfl (fun hc2 => ?_) (fun hc2 => ?_)
      · try replace hc2 := of_decide_eq_true hc2
        refine Run.skip ?_
        refine Run.seq ?_
        refine Run.block ?_
        refine Run.seq ?_
        refine Run.quiet (by intro h; cases h) ?_
        refine QOps.st rfl rfl (Yv.move rfl).yl ?_
        refine QOps.st rfl rfl (Yv.assign rfl).yl ?_
        refine QOps.nil ?_
        refine Run.seq ?_
        refine Run.ops ?_
        refine SOps.st rfl rfl (Yv.move rfl).yl ?_
        refine SOps.one rfl (One.callRow rfl callable67 (.cons rfl (.nil)) (fun w' hw' => Clone_spec ((Rd.arg hs) w' hw') (by omega) (by omega)) (fun A1 c1 => ?_))
        refine SOps.st rfl rfl (Yv.move rfl).yl ?_
        refine SOps.st rfl rfl (Yv.move rfl).yl ?_
        refine SOps.st rfl rfl (Yv.succN rfl rfl (by omega)).yl ?_
        refine SOps.one rfl (One.callGrow (i := 0) (H' := fun A c => [_]) rfl callable66 (.cons rfl (.cons rfl (.cons rfl (.nil)))) rfl (fun w' hw' => delFix_spec (hw'.ent _ (List.mem_of_getElem? (i := 0) rfl)) (by simp) (by omega) (by omega)) (fun _ _ => rfl) (fun A2 c2 => ?_))
        refine SOps.st rfl rfl (Yv.move rfl).yl ?_
        refine SOps.st rfl rfl (Yl.call callable58 (.cons rfl (.cons rfl (.nil))) (fun w' hw' => areConsistentN_spec (fs := without fs k) (without_len (by omega)) ((Rd.row (i := 0) rfl) w' hw') (without_ok hall) hq.2.1 hq.2.2)) ?_
        refine SOps.nil ?_
        refine Run.cond rfl (fun hc3 => ?_) (fun hc3 => ?_)
        · try replace hc3 := of_decide_eq_true hc3
          refine Run.seq ?_
          refine Run.quiet (by intro h; cases h) ?_
          refine QOps.st rfl rfl (Yv.move rfl).yl ?_
          refine QOps.st rfl rfl (Yv.assign rfl).yl ?_
          refine QOps.st rfl rfl (Yv.assign rfl).yl ?_
          refine QOps.nil ?_
          refine Run.ret ?_
          refine retQ.of (.inr rfl) rfl (.tmp rfl (.tmp rfl .nil)) (fun w' hw' => ?_)
          refine ⟨?_, hw'.bel.below⟩
          unfold oddOf; rw [if_pos hy, firstTo_some (k := k) (by omega) hc3 hno]; rfl
        · try replace hc3 := of_decide_eq_false hc3
          refine Run.skip ?_
          refine Run.quiet (by intro h; cases h) ?_
          refine QOps.st rfl rfl (Yv.succN rfl rfl (by omega)).yl ?_
          refine QOps.st rfl rfl (Yv.move rfl).yl ?_
          refine QOps.nil ?_
          refine ⟨k + 1, ?_, ?_, (SubE.cons rfl (SubE.cons rfl (SubE.cons rfl (SubE.cons rfl (SubE.nil _))))), (List.Sublist.cons _ (List.Sublist.refl _))⟩
          · exact ⟨by omega, all_succ hno hc3⟩
          · first | omega | (dsimp only; omega)
      · try replace hc2 := of_decide_eq_false hc2
        refine Run.exit ?_
        refine Run.seq ?_
        refine Run.quiet (by intro h; cases h) ?_
        refine QOps.st rfl rfl (Yv.assign rfl).yl ?_
        refine QOps.st rfl rfl (Yv.assign rfl).yl ?_
        refine QOps.nil ?_
        refine Run.ret ?_
        refine retQ.of (.inr rfl) rfl (.tmp rfl (.tmp rfl .nil)) (fun w' hw' => ?_)
        refine ⟨?_, hw'.bel.below⟩
        unfold oddOf; rw [if_pos hy, firstTo_none (fun i hi => hno i (by omega))]; rfl

theorem sOddFix_spec {w : World} {A : Option Addr} {c : Nat} {fs : List Fix} {pace : Int} (hs : Sl w 3 A fs.length c (fs.flatMap Fix.enc)) :
    Calls Try.prog 28 #[.slice A fs.length c, .int .i64 pace] w (RetB w (.tuple #[.int .i64 (oddOf fs pace).1, .bool (oddOf fs pace).2])) := by
  have hmx := Sl.lenle hs
  have hcap := hs.cap
  refine calls_of_run (vs := [_, _]) (L := [(0, _), (1, _)]) (n := 39) (F := []) (H := []) Try.func28 rfl rfl rfl rfl (HOk.start _) ?_
  refine Run.seq ?_
  refine Run.quiet (by intro h; cases h) ?_
  refine QOps.st rfl rfl (Yv.assign rfl).yl ?_
  refine QOps.st rfl rfl (Yv.assign rfl).yl ?_
  refine QOps.nil ?_
  refine Run.seq ?_
  refine Run.seq ?_
  refine Run.quiet (by intro h; cases h) ?_
  refine QOps.st rfl rfl (Yv.move rfl).yl ?_
  refine QOps.st rfl rfl (Yl.call callable51 (.cons rfl (.nil)) (fun w' hw' => l21Good_spec ((Rd.arg hs) w' hw'))) ?_
  refine QOps.st rfl rfl (Yv.not rfl).yl ?_
  refine QOps.st rfl rfl (Yv.move rfl).yl ?_
  refine' QOps.or [_, _, _] _ (.tmp 13) rfl rfl rfl rfl rfl rfl (fun hg1 => ?_) ?_
  rotate_left
  · try replace hg1 := of_decide_eq_false hg1
    refine QOps.st rfl rfl (Yv.move rfl).yl ?_
    refine QOps.st rfl rfl (Yl.call callable55 (.cons rfl (.nil)) (fun w' hw' => l21Pace_spec)) ?_
    refine QOps.st rfl rfl (Yv.not rfl).yl ?_
    exact QOps.nil rfl
  refine QOps.st rfl rfl (Yv.move rfl).yl ?_
  refine' QOps.or [_, _, _] _ (.tmp 18) rfl rfl rfl rfl rfl rfl (fun hg2 => ?_) ?_
  rotate_left
  · try replace hg2 := of_decide_eq_false hg2
    have hg3 : areFixes fs = true ∧ inB pace 0 500 = true := by revert hg2; cases areFixes fs <;> cases inB pace 0 500 <;> simp
    have hok := areFixes_all hg3.1
    have hpb := inB_iff.1 hg3.2
    refine QOps.st rfl rfl (Yv.move rfl).yl ?_
    refine QOps.st rfl rfl (Yv.move rfl).yl ?_
    refine QOps.st rfl rfl (Yl.call callable56 (.cons rfl (.cons rfl (.nil))) (fun w' hw' => l21Consistent_spec ((Rd.arg hs) w' hw') (by assumption) (by omega) (by omega))) ?_
    exact QOps.nil rfl
  refine QOps.nil ?_
  refine Run.cond rfl (fun hc1 => ?_) (fun hc1 => ?_)
  · try replace hc1 := of_decide_eq_true hc1
    have hn : oddAsked fs pace = false := by unfold oddAsked; revert hc1; cases areFixes fs <;> cases inB pace 0 500 <;> cases consistent fs pace <;> simp
    refine Run.seq ?_
    refine Run.quiet (by intro h; cases h) ?_
    refine QOps.st rfl rfl (Yv.assign rfl).yl ?_
    refine QOps.st rfl rfl (Yv.assign rfl).yl ?_
    refine QOps.nil ?_
    refine Run.ret ?_
    refine retQ.of (.inr rfl) rfl (.tmp rfl (.tmp rfl .nil)) (fun w' hw' => ?_)
    refine ⟨?_, hw'.bel.below⟩
    unfold oddOf; rw [if_neg (by rw [hn]; simp)]; rfl
  · try replace hc1 := of_decide_eq_false hc1
    have hy : oddAsked fs pace = true := by unfold oddAsked; revert hc1; cases areFixes fs <;> cases inB pace 0 500 <;> cases consistent fs pace <;> simp
    have hq := oddAsked_parts hy
    have hall := areFixes_all hq.1
    have hlen := areFixes_ok hq.1
    refine Run.skip ?_
    refine Run.seq ?_
    refine Run.seq ?_
    refine Run.quiet (by intro h; cases h) ?_
    refine QOps.st rfl rfl (Yv.assign rfl).yl ?_
    refine QOps.nil ?_
    refine Run.block ?_
    refine Run.loop (S := Nat) (fun s => match s with | k => k ≤ fs.length ∧ ∀ i, i < k → consistent (without fs i) pace = false) (fun s => match s with | k => [(0, .slice A fs.length c), (1, .int .i64 pace), (6, .int .i64 (k : Int))]) (fun s => match s with | k => []) (fun s => match s with | k => fs.length - k) 0 ?_ (SubE.cons rfl (SubE.cons rfl (SubE.cons rfl (SubE.nil _)))) (List.Sublist.refl _) ?_
    · exact ⟨by omega, fun i hi => by omega⟩
    · rintro k ⟨hk, hno⟩
      show Run _ _ _ _ _ [(0, .slice A fs.length c), (1, .int .i64 pace), (6, .int .i64 (k : Int))] [] _
      refine Run.seq ?_
      refine Run.seq ?_
      refine Run.quiet (by intro h; cases h) ?_
      refine QOps.st rfl rfl (Yv.move rfl).yl ?_
      refine QOps.st rfl rfl (Yv.move rfl).yl ?_
      refine QOps.st rfl rfl (Yv.lenS el25s rfl).yl ?_
      refine QOps.st rfl rfl (Yv.lss rfl rfl).yl ?_
      refine QOps.nil ?_
      refine Run.cond rfl (fun hc2 => ?_) (fun hc2 => ?_)
      · try replace hc2 := of_decide_eq_true hc2
        refine Run.skip ?_
        refine Run.seq ?_
        refine Run.block ?_
        refine Run.seq ?_
        refine Run.draws (fun H => H) (m := 12) (listed := #[false, false, false, false, false, false, false, false, false, false, false, false]) (by kernel_rfl) rfl rfl ?_
        refine DOps.take (listed' := #[false, true, false, false, false, false, false, false, false, false, false, false]) 1 rfl (by kernel_rfl) rfl List.Sublist.slnil rfl rfl (Yv.move rfl) ?_
        refine DOps.take (listed' := #[false, true, true, false, false, false, false, false, false, false, false, false]) 2 rfl (by kernel_rfl) rfl List.Sublist.slnil rfl rfl (Yv.move rfl) ?_
        refine DOps.take (listed' := #[false, true, true, true, false, false, false, false, false, false, false, false]) 3 rfl (by kernel_rfl) rfl List.Sublist.slnil rfl rfl (Yv.cutTo0 k el25 rfl rfl rfl (by omega)) ?_
        refine DOps.take (listed' := #[false, true, true, true, false, true, false, false, false, false, false, false]) 5 rfl (by kernel_rfl) rfl List.Sublist.slnil rfl rfl (Yv.move rfl) ?_
        refine DOps.take (listed' := #[false, true, true, true, false, true, true, false, false, false, false, false]) 6 rfl (by kernel_rfl) rfl List.Sublist.slnil rfl rfl (Yv.move rfl) ?_
        refine DOps.take (listed' := #[false, true, true, true, false, true, true, true, false, false, false, false]) 7 rfl (by kernel_rfl) rfl List.Sublist.slnil rfl rfl (Yv.succN rfl rfl (by omega)) ?_
        refine DOps.take (listed' := #[false, true, true, true, false, true, true, true, true, false, false, false]) 8 rfl (by kernel_rfl) rfl List.Sublist.slnil rfl rfl (Yv.cutFrom (k + 1) el25 rfl rfl rfl (by omega)) ?_
        refine DOps.take (listed' := #[false, true, true, true, false, true, true, true, true, false, true, false]) 10 rfl (by kernel_rfl) rfl List.Sublist.slnil rfl rfl (Yv.move rfl) ?_
        refine DOps.only (listed' := #[true, true, true, true, false, true, true, true, true, false, true, false]) 0 rfl (by kernel_rfl) rfl rfl ?_
        refine One.buildSliceG (pv := []) (cs := []) (fun _ => []) rfl el25 .nil rfl rfl (by kernel_rfl) rfl rfl (fun b1 => ?_)
        refine ⟨(List.nil_sublist _), ?_⟩
        refine DOps.only (listed' := #[true, true, true, true, true, true, true, true, true, false, true, false]) 4 rfl (by kernel_rfl) rfl rfl ?_
        refine One.append (enc := Fix.enc) (l := ([] : List Fix)) (l2 := (fs.take k)) (m' := k) (i := 0) (H' := fun A c => [_]) rfl el25 zero49 rfl (by decide) rfl rfl rfl (Rd.cut0 Fix.len (Rd.arg hs) (by omega)) (fun _ => rfl) (by simp) (by omega) (by omega) (fun _ _ => rfl) (fun A1 c1 => ?_)
        refine ⟨(List.nil_sublist _), ?_⟩
        refine DOps.only (listed' := #[true, true, true, true, true, true, true, true, true, true, true, false]) 9 rfl (by kernel_rfl) rfl rfl ?_
        refine One.append (enc := Fix.enc) (l := (fs.take k)) (l2 := (fs.drop (k + 1))) (m' := (k + (fs.length - (k + 1)))) (i := 0) (H' := fun A c => [_]) rfl el25 zero49 rfl (by decide) rfl rfl rfl (Rd.cutF Fix.len (Rd.arg hs) rfl (by omega)) (fun _ => rfl) rfl (by omega) (by omega) (fun _ _ => rfl) (fun A2 c2 => ?_)
        refine ⟨(List.nil_sublist _), ?_⟩
        refine DOps.only (listed' := #[true, true, true, true, true, true, true, true, true, true, true, true]) 11 rfl (by kernel_rfl) rfl rfl ?_
        refine One.st rfl (Yl.call callable56 (.cons rfl (.cons rfl (.nil))) (fun w' hw' => l21ConsistentN_spec (fs := without fs k) (without_len (by omega)) ((Rd.row (i := 0) rfl) w' hw') (without_ok hall) hq.2.1 hq.2.2)) ?_
        refine ⟨(List.nil_sublist _), ?_⟩
        refine DOps.done (by kernel_rfl) ?_
        refine Run.cond rfl (fun hc3 => ?_) (fun hc3 => ?_)
        · try replace hc3 := of_decide_eq_true hc3
          refine Run.seq ?_
          refine Run.quiet (by intro h; cases h) ?_
          refine QOps.st rfl rfl (Yv.move rfl).yl ?_
          refine QOps.st rfl rfl (Yv.assign rfl).yl ?_
          refine QOps.st rfl rfl (Yv.assign rfl).yl ?_
          refine QOps.nil ?_
          refine Run.ret ?_
          refine retQ.of (.inr rfl) rfl (.tmp rfl (.tmp rfl .nil)) (fun w' hw' => ?_)
          refine ⟨?_, hw'.bel.below⟩
          unfold oddOf; rw [if_pos hy, firstTo_some (k := k) (by omega) hc3 hno]; rfl
        · try replace hc3 := of_decide_eq_false hc3
          refine Run.skip ?_
          refine Run.quiet (by intro h; cases h) ?_
          refine QOps.st rfl rfl (Yv.move rfl).yl ?_
          refine QOps.st rfl rfl (Yv.succN rfl rfl (by omega)).yl ?_
          refine QOps.st rfl rfl (Yv.assign rfl).yl ?_
          refine QOps.nil ?_
          refine ⟨k + 1, ?_, ?_, (SubE.cons rfl (SubE.cons rfl (SubE.cons rfl (SubE.nil _)))), (List.Sublist.cons _ (List.Sublist.refl _))⟩
          · exact ⟨by omega, all_succ hno hc3⟩
          · first | omega | (dsimp only; omega)
      · try replace hc2 := of_decide_eq_false hc2
        refine Run.exit ?_
        refine Run.seq ?_
        refine Run.quiet (by intro h; cases h) ?_
        refine QOps.st rfl rfl (Yv.assign rfl).yl ?_
        refine QOps.st rfl rfl (Yv.assign rfl).yl ?_
        refine QOps.nil ?_
        refine Run.ret ?_
        refine retQ.of (.inr rfl) rfl (.tmp rfl (.tmp rfl .nil)) (fun w' hw' => ?_)
        refine ⟨?_, hw'.bel.below⟩
        unfold oddOf; rw [if_pos hy, firstTo_none (fun i hi => hno i (by omega))]; rfl

theorem FnExactOddFix_spec {w : World} {A : Option Addr} {c : Nat} {fs : List Fix} {pace : Int} (hs : Sl w 3 A fs.length c (fs.flatMap Fix.enc)) (hb : 24 * fs.length ≤ 281474976710656) :
    Calls Try.prog 8 #[.slice A fs.length c, .int .i64 pace] w (RetB w (.bool true)) := by
  refine calls_of_run (vs := [_, _]) (L := [(0, _), (1, _)]) (n := 44) (F := []) (H := []) Try.func8 rfl rfl rfl rfl (HOk.start _) ?_
  refine Run.seq ?_
  refine Run.quiet (by intro h; cases h) ?_
  refine QOps.st rfl rfl (Yv.assign rfl).yl ?_
  refine QOps.nil ?_
  refine Run.seq ?_
  refine Run.quiet (by intro h; cases h) ?_
  refine QOps.st rfl rfl (Yv.assign rfl).yl ?_
  refine QOps.nil ?_
  refine Run.seq ?_
  refine Run.quiet (by intro h; cases h) ?_
  refine QOps.st rfl rfl (Yv.move rfl).yl ?_
  refine QOps.st rfl rfl (Yv.move rfl).yl ?_
  refine QOps.st rfl rfl (Yl.call callable14 (.cons rfl (.cons rfl (.nil))) (fun w' hw' => szFixS_spec (by omega) (by omega) (by omega))) ?_
  refine QOps.st rfl rfl (Yv.assign rfl).yl ?_
  refine QOps.nil ?_
  refine Run.seq ?_
  refine Run.seq ?_
  refine Run.quiet (by intro h; cases h) ?_
  refine QOps.st rfl rfl (Yv.move rfl).yl ?_
  refine QOps.st rfl rfl (Yv.lss rfl rfl).yl ?_
  refine QOps.nil ?_
  refine Run.cond rfl (fun hc1 => ?_) (fun hc1 => ?_)
  · try replace hc1 := of_decide_eq_true hc1
    refine Run.seq ?_
    refine Run.quiet (by intro h; cases h) ?_
    refine QOps.st rfl rfl (Yv.assign rfl).yl ?_
    refine QOps.nil ?_
    refine Run.ret ?_
    refine retQ.of (.inr rfl) rfl (.tmp rfl .nil) (fun w' hw' => ?_)
    refine ⟨?_, hw'.bel.below⟩
    exact rfl
  · try replace hc1 := of_decide_eq_false hc1
    refine Run.skip ?_
    refine Run.seq ?_
    refine Run.ops ?_
    refine SOps.st rfl rfl (Yv.move rfl).yl ?_
    refine SOps.one rfl (One.callRow rfl callable16 (.cons rfl (.nil)) (fun w' hw' => toFixS_spec ((Rd.arg hs) w' hw') (by omega)) (fun A1 c1 => ?_))
    refine SOps.st rfl rfl (Yv.move rfl).yl ?_
    refine SOps.st rfl rfl (Yl.call callable28 (.cons rfl (.cons rfl (.nil))) (fun w' hw' => sOddFix_spec ((Rd.row (i := 0) rfl) w' hw'))) ?_
    refine SOps.st rfl rfl (Yv.move rfl).yl ?_
    refine SOps.st rfl rfl (Yv.extract rfl rfl).yl ?_
    refine SOps.st rfl rfl (Yv.extract rfl rfl).yl ?_
    refine SOps.st rfl rfl (Yv.assign rfl).yl ?_
    refine SOps.st rfl rfl (Yv.assign rfl).yl ?_
    refine SOps.nil ?_
    refine Run.seq ?_
    refine Run.ops ?_
    refine SOps.st rfl rfl (Yv.move rfl).yl ?_
    refine SOps.one rfl (One.callRow rfl callable16 (.cons rfl (.nil)) (fun w' hw' => toFixS_spec ((Rd.arg hs) w' hw') (by omega)) (fun A2 c2 => ?_))
    refine SOps.st rfl rfl (Yv.assign rfl).yl ?_
    refine SOps.nil ?_
    refine Run.seq ?_
    refine Run.quiet (by intro h; cases h) ?_
    refine QOps.st rfl rfl (Yv.move rfl).yl ?_
    refine QOps.st rfl rfl (Yv.move rfl).yl ?_
    refine QOps.st rfl rfl (Yl.call callable29 (.cons rfl (.cons rfl (.nil))) (fun w' hw' => OddFix_spec ((Rd.row (i := 0) rfl) w' hw'))) ?_
    refine QOps.st rfl rfl (Yv.move rfl).yl ?_
    refine QOps.st rfl rfl (Yv.extract rfl rfl).yl ?_
    refine QOps.st rfl rfl (Yv.extract rfl rfl).yl ?_
    refine QOps.st rfl rfl (Yv.assign rfl).yl ?_
    refine QOps.st rfl rfl (Yv.assign rfl).yl ?_
    refine QOps.nil ?_
    refine Run.seq ?_
    refine Run.seq ?_
    refine Run.quiet (by intro h; cases h) ?_
    refine QOps.st rfl rfl (Yv.move rfl).yl ?_
    refine QOps.st rfl rfl (Yv.move rfl).yl ?_
    refine QOps.st rfl rfl (Yv.neI rfl rfl).yl ?_
    refine QOps.st rfl rfl (Yv.move rfl).yl ?_
    refine' QOps.or [_, _, _] _ (.tmp 37) rfl rfl rfl rfl rfl rfl (fun hg1 => ?_) ?_
    rotate_left
    · try replace hg1 := of_decide_eq_false hg1
      refine QOps.st rfl rfl (Yv.move rfl).yl ?_
      refine QOps.st rfl rfl (Yv.move rfl).yl ?_
      refine QOps.st rfl rfl (Yv.neB bool4 rfl rfl).yl ?_
      exact QOps.nil rfl
    refine QOps.nil ?_
    refine Run.cond rfl (fun hc2 => ?_) (fun hc2 => ?_)
    · exfalso
      simp at hc2
    · try replace hc2 := of_decide_eq_false hc2
      refine Run.skip ?_
      refine Run.seq ?_
      refine Run.seq ?_
      refine Run.ops ?_
      refine SOps.st rfl rfl (Yv.move rfl).yl ?_
      refine SOps.st rfl rfl (Yv.move rfl).yl ?_
      refine SOps.one rfl (One.callRow rfl callable16 (.cons rfl (.nil)) (fun w' hw' => toFixS_spec ((Rd.arg hs) w' hw') (by omega)) (fun A3 c3 => ?_))
      refine SOps.st rfl rfl (Yl.call callable18 (.cons rfl (.cons rfl (.nil))) (fun w' hw' => eqFixS_spec ((Rd.row (i := 1) rfl) w' hw') ((Rd.row (i := 0) rfl) w' hw'))) ?_
      refine SOps.st rfl rfl (Yv.not rfl).yl ?_
      refine SOps.nil ?_
      refine Run.cond rfl (fun hc3 => ?_) (fun hc3 => ?_)
      · exfalso
        simp at hc3
      · try replace hc3 := of_decide_eq_false hc3
        refine Run.skip ?_
        refine Run.seq ?_
        refine Run.quiet (by intro h; cases h) ?_
        refine QOps.st rfl rfl (Yv.assign rfl).yl ?_
        refine QOps.nil ?_
        refine Run.ret ?_
        refine retQ.of (.inr rfl) rfl (.tmp rfl .nil) (fun w' hw' => ?_)
        refine ⟨?_, hw'.bel.below⟩
        exact rfl

end Go.Proofs.Ytliealfihglkmaa
