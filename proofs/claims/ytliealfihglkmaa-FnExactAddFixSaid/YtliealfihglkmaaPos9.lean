/- Fixes: one more fix; what the law of fixes draws. Conditions: none. -/
import Derived.Test.YtliealfihglkmaaPos7
namespace Go.Proofs.Ytliealfihglkmaa
open Go.RowKit
set_option maxRecDepth 100000
/-- A slice of the call's own row, from its k-th element on. -/
def RetSub (w : World) (T sz m k : Nat) (xs : List Value) (mk : Value → Value) (e : Ending) (w' : World) : Prop :=
  ∃ A c, e = .returned (mk (.slice (cutA A c k sz) (m - k) (c - k))) ∧ Below w.heap.size w w' ∧ (HEnt.row A c T sz m xs).ok w' ∧ ∀ g, A.map (·.block) = some g → w.heap.size ≤ g
section
variable {P : Program} {n : Nat} {w0 : World} {F : List Nat} {H : List HEnt} {L : Env}
variable {ty : TypeId} {pos : String} {aft : Array Edge} {g : Option (Nat × Bool)} {d : Nat} {T : TypeId} {K : Env → List HEnt → Prop}
theorem One.callSub {f : FuncId} {xs : List Operand} {vs : List Value} {ts : Array TypeId} {sz m k : Nat} {cells : List Value} {mk : Value → Value} (hd : Nat.blt d n = true) (hc : callable P f = true) (hargs : Evs L xs vs)
    (hcc : ∀ w, HOk w0 F H w → Calls P f vs.toArray w (RetSub w T sz m k cells mk))
    (h : ∀ A c, K ((d, mk (.slice (cutA A c k sz) (m - k) (c - k))) :: L) (.row A c T sz m cells :: H)) :
    One P n w0 F ⟨some d, .call { callee := .value (.func f), args := xs.toArray, argTypes := ts }, ty, pos, aft, g⟩ L H K :=
  One.call (by simpa [dstOk] using hd) hc hargs hcc fun _ _ _ hw ⟨A, c, he, hb, hok, hbl⟩ => ⟨_, _, he, hw.push hb hok (fun g hg => hbl g hg), h A c⟩
end
theorem not_f {b : Bool} (h : (!b) = false) : b = true := by cases b <;> simp_all
theorem areFixesN_spec {w : World} {A : Option Addr} {c n : Nat} {fs : List Fix} (hn : fs.length = n) (hs : Sl w 3 A n c (fs.flatMap Fix.enc)) : Calls Try.prog 17 #[.slice A n c] w (RetB w (.bool (areFixes fs))) := by subst hn; exact AreFixes_spec hs
theorem l21GoodN_spec {w : World} {A : Option Addr} {c n : Nat} {fs : List Fix} (hn : fs.length = n) (hs : Sl w 3 A n c (fs.flatMap Fix.enc)) : Calls Try.prog 51 #[.slice A n c] w (RetB w (.bool (areFixes fs))) := by subst hn; exact l21Good_spec hs
def addK (fs : List Fix) : Nat := if fs.length = 8 then 1 else 0
def addL (fs : List Fix) (f : Fix) : List Fix := fs.drop (addK fs) ++ [f]
def addOk (fs : List Fix) (f : Fix) (pace : Int) : Bool := areFixes fs && inB pace 0 500 && areFixes (addL fs f) && consistent (addL fs f) pace
/-- The row that the program builds, and what is handed back of it. -/
def addM (fs : List Fix) (f : Fix) (pace : Int) : List Fix := if addOk fs f pace = true then fs ++ [f] else []
def addR (fs : List Fix) (f : Fix) (pace : Int) : List Fix := if addOk fs f pace = true then addL fs f else []
theorem addK_le {fs : List Fix} : addK fs ≤ fs.length := by unfold addK; split <;> omega
def addK2 (fs : List Fix) (f : Fix) (pace : Int) : Nat := if addOk fs f pace = true then addK fs else 0
theorem add_eq {fs : List Fix} {f : Fix} {pace : Int} : (addM fs f pace).drop (addK2 fs f pace) = addR fs f pace := by
  unfold addM addR addK2
  split
  · unfold addL
    rw [List.drop_append_of_le_length addK_le]
  · simp
theorem addK2_le {fs : List Fix} {f : Fix} {pace : Int} : addK2 fs f pace ≤ (addM fs f pace).length := by
  unfold addM addK2
  split
  · have := addK_le (fs := fs)
    simp; omega
  · simp
theorem addM_len {fs : List Fix} {f : Fix} {pace : Int} : (addM fs f pace).length ≤ fs.length + 1 := by
  unfold addM
  split <;> simp
theorem add_len {fs : List Fix} {f : Fix} {pace : Int} : (addR fs f pace).length = (addM fs f pace).length - addK2 fs f pace := by
  rw [← add_eq, List.length_drop]
theorem AddFix_spec {w : World} {A : Option Addr} {c : Nat} {fs : List Fix} {f : Fix} {pace : Int} (hs : Sl w 3 A fs.length c (fs.flatMap Fix.enc)) :
    Calls Try.prog 34 #[.slice A fs.length c, .agg f.enc.toArray, .int .i64 pace] w (RetSub w 49 3 (addM fs f pace).length (addK2 fs f pace) ((addM fs f pace).flatMap Fix.enc) (fun v => .tuple #[v, .bool (addOk fs f pace)])) := by
  have hmx := Sl.lenle hs
  refine calls_of_run (vs := [_, _, _]) (L := [(0, _), (1, _), (2, _)]) (n := 34) (F := []) (H := []) Try.func34 rfl rfl rfl rfl (HOk.start _) ?_
  refine Run.seq ?_
  refine Run.ops ?_
  refine SOps.one rfl (One.box (cs := [_, _, _]) rfl rfl rfl (fun b1 => ?_))
  refine SOps.st rfl rfl (Yv.assign rfl).yl ?_
  refine SOps.st rfl rfl (Yv.assign rfl).yl ?_
  refine SOps.nil ?_
  refine Run.seq ?_
  refine Run.seq ?_
  refine Run.quiet (by intro h; cases h) ?_
  refine QOps.st rfl rfl (Yv.move rfl).yl ?_
  refine QOps.st rfl rfl (Yv.move rfl).yl ?_
  refine QOps.st rfl rfl (Yl.call callable57 (.cons rfl (.cons rfl (.nil))) (fun w' hw' => isPace_spec ((Rd.arg hs) w' hw'))) ?_
  refine QOps.st rfl rfl (Yv.not rfl).yl ?_
  refine QOps.nil ?_
  refine Run.cond rfl (fun hc1 => ?_) (fun hc1 => ?_)
  · try replace hc1 := of_decide_eq_true hc1
    have hn : addOk fs f pace = false := by unfold addOk; revert hc1; cases areFixes fs <;> cases inB pace 0 500 <;> simp
    refine Run.seq ?_
    refine Run.quiet (by intro h; cases h) ?_
    refine QOps.st rfl rfl (Yv.assign rfl).yl ?_
    refine QOps.st rfl rfl (Yv.assign rfl).yl ?_
    refine QOps.nil ?_
    refine Run.ret ?_
    refine retQ.of (.inr rfl) rfl (.tmp rfl (.tmp rfl .nil)) (fun w' hw' => ?_)
    have hM : addM fs f pace = [] := by unfold addM; rw [if_neg (by rw [hn]; simp)]
    have hk2 : addK2 fs f pace = 0 := by unfold addK2; rw [if_neg (by rw [hn]; simp)]
    rw [hM, hn, hk2]
    exact ⟨none, 0, (by rw [cutA_zero]; rfl), hw'.bel.below, ⟨by simp, .inl ⟨rfl, rfl⟩⟩, by simp⟩
  · try replace hc1 := of_decide_eq_false hc1
    have hy : areFixes fs = true ∧ inB pace 0 500 = true := by revert hc1; cases areFixes fs <;> cases inB pace 0 500 <;> simp
    have hb := inB_iff.1 hy.2
    have hl := areFixes_ok hy.1
    refine Run.skip ?_
    refine Run.seq ?_
    refine Run.draws (fun H => H) (m := 7) (listed := #[false, false, false, false, false, false, false]) (by kernel_rfl) rfl rfl ?_
    refine DOps.take (listed' := #[false, true, false, false, false, false, false]) 1 rfl (by kernel_rfl) rfl (List.Sublist.refl _) rfl rfl (Yv.move rfl) ?_
    refine DOps.take (listed' := #[false, true, false, true, false, false, false]) 3 rfl (by kernel_rfl) rfl (List.Sublist.refl _) rfl rfl (Yv.loadBs (i := 0) lay49 rfl rfl rfl rfl) ?_
    refine DOps.fork2 (l1 := #[true, true, false, true, false, false, false]) (l2 := #[false, true, false, true, true, false, false]) 0 4 rfl rfl (by kernel_rfl) rfl rfl rfl rfl ?_ ?_
    ·
      refine One.buildSliceG (pv := []) (cs := []) (fun _ => []) rfl el25 .nil rfl rfl (by kernel_rfl) rfl rfl (fun b2 => ?_)
      refine ⟨(List.Sublist.cons _ (List.Sublist.refl _)), ?_⟩
      refine DOps.fork2 (l1 := #[true, true, true, true, false, false, false]) (l2 := #[true, true, false, true, true, false, false]) 2 4 rfl rfl (by kernel_rfl) rfl rfl rfl rfl ?_ ?_
      ·
        refine One.append (enc := Fix.enc) (l := ([] : List Fix)) (l2 := fs) (m' := fs.length) (i := 0) (H' := fun A c => [_, _]) rfl el25 zero49 rfl (by decide) rfl rfl rfl (Rd.arg hs) (fun _ => rfl) (by simp) (by omega) (by omega) (fun _ _ => rfl) (fun A1 c1 => ?_)
        refine ⟨(List.Sublist.cons _ (List.Sublist.refl _)), ?_⟩
        refine DOps.only (listed' := #[true, true, true, true, true, false, false]) 4 rfl (by kernel_rfl) rfl rfl ?_
        refine One.buildSliceG (pv := [(0, _)]) (cs := [_, _, _]) (fun l => match l with | [.agg ⟨[a0_0, a0_1, a0_2]⟩] => [a0_0, a0_1, a0_2] | _ => []) rfl el25 (.cons rfl (.nil)) rfl rfl (by kernel_rfl) rfl rfl (fun b3 => ?_)
        refine ⟨(List.Sublist.cons _ (List.Sublist.cons _ (List.Sublist.refl _))), ?_⟩
        refine DOps.only (listed' := #[true, true, true, true, true, true, false]) 5 rfl (by kernel_rfl) rfl rfl ?_
        refine One.append (enc := Fix.enc) (l := fs) (l2 := [f]) (m' := (fs.length + 1)) (i := 1) (H' := fun A c => [_, _, _]) rfl el25 zero49 rfl (by decide) rfl rfl rfl (Rd.row (i := 0) rfl) (fun _ => rfl) rfl (by omega) (by omega) (fun _ _ => rfl) (fun A2 c2 => ?_)
        refine ⟨(List.Sublist.cons _ (List.Sublist.cons _ (List.Sublist.refl _))), ?_⟩
        refine DOps.take (listed' := #[true, true, true, true, true, true, true]) 6 rfl (by kernel_rfl) rfl (List.Sublist.cons _ (List.Sublist.cons _ (List.Sublist.refl _))) rfl rfl (Yv.assign rfl) ?_
        refine DOps.done (by kernel_rfl) ?_
        refine Run.seq ?_
        refine Run.seq ?_
        refine Run.quiet (by intro h; cases h) ?_
        refine QOps.st rfl rfl (Yv.move rfl).yl ?_
        refine QOps.st rfl rfl (Yv.lenS el25s rfl).yl ?_
        refine QOps.st rfl rfl (Yv.gtr rfl rfl).yl ?_
        refine QOps.nil ?_
        refine Run.cond rfl (fun hc2 => ?_) (fun hc2 => ?_)
        · try replace hc2 := of_decide_eq_true hc2
          have hk : addK fs = 1 := by unfold addK; rw [if_pos (by omega)]
          have hL : addL fs f = (fs ++ [f]).drop 1 := by unfold addL; rw [hk, List.drop_append_of_le_length (by omega)]
          refine Run.quiet (by intro h; cases h) ?_
          refine QOps.st rfl rfl (Yv.move rfl).yl ?_
          refine QOps.st rfl rfl (Yv.cutFrom 1 el25 rfl rfl rfl (by omega)).yl ?_
          refine QOps.st rfl rfl (Yv.assign rfl).yl ?_
          refine QOps.nil ?_
          refine Run.seq ?_
          refine Run.seq ?_
          refine Run.quiet (by intro h; cases h) ?_
          refine QOps.st rfl rfl (Yv.move rfl).yl ?_
          refine QOps.st rfl rfl (Yl.call callable17 (.cons rfl (.nil)) (fun w' hw' => areFixesN_spec (by first | rfl | (simp; done) | (simp; omega)) ((Rd.cutF (xs := (fs ++ [f])) Fix.len (Rd.row (i := 1) rfl) (by simp) (by omega)) w' hw'))) ?_
          refine QOps.st rfl rfl (Yv.not rfl).yl ?_
          refine QOps.st rfl rfl (Yv.move rfl).yl ?_
          refine' QOps.or [_, _, _, _] _ (.tmp 31) rfl rfl rfl rfl rfl rfl (fun hg1 => ?_) ?_
          rotate_left
          · try replace hg1 := of_decide_eq_false hg1
            have hok9 := areFixes_all (not_f hg1)
            refine QOps.st rfl rfl (Yv.move rfl).yl ?_
            refine QOps.st rfl rfl (Yv.move rfl).yl ?_
            refine QOps.st rfl rfl (Yl.call callable58 (.cons rfl (.cons rfl (.nil))) (fun w' hw' => areConsistentN_spec (by first | rfl | (simp; done) | (simp; omega)) ((Rd.cutF (xs := (fs ++ [f])) Fix.len (Rd.row (i := 1) rfl) (by simp) (by omega)) w' hw') (by assumption) (by omega) (by omega))) ?_
            refine QOps.st rfl rfl (Yv.not rfl).yl ?_
            exact QOps.nil rfl
          refine QOps.nil ?_
          refine Run.cond rfl (fun hc3 => ?_) (fun hc3 => ?_)
          · try replace hc3 := of_decide_eq_true hc3
            have hn : addOk fs f pace = false := by unfold addOk; rw [hL]; revert hc3; cases areFixes ((fs ++ [f]).drop 1) <;> cases consistent _ pace <;> simp
            refine Run.seq ?_
            refine Run.quiet (by intro h; cases h) ?_
            refine QOps.st rfl rfl (Yv.assign rfl).yl ?_
            refine QOps.st rfl rfl (Yv.assign rfl).yl ?_
            refine QOps.nil ?_
            refine Run.ret ?_
            refine retQ.of (.inr rfl) rfl (.tmp rfl (.tmp rfl .nil)) (fun w' hw' => ?_)
            have hM : addM fs f pace = [] := by unfold addM; rw [if_neg (by rw [hn]; simp)]
            have hk2 : addK2 fs f pace = 0 := by unfold addK2; rw [if_neg (by rw [hn]; simp)]
            rw [hM, hn, hk2]
            exact ⟨none, 0, (by rw [cutA_zero]; rfl), hw'.bel.below, ⟨by simp, .inl ⟨rfl, rfl⟩⟩, by simp⟩
          · try replace hc3 := of_decide_eq_false hc3
            have hyes : addOk fs f pace = true := by unfold addOk; rw [hL, hy.1, hy.2]; revert hc3; cases areFixes ((fs ++ [f]).drop 1) <;> cases consistent _ pace <;> simp
            refine Run.skip ?_
            refine Run.seq ?_
            refine Run.quiet (by intro h; cases h) ?_
            refine QOps.st rfl rfl (Yv.move rfl).yl ?_
            refine QOps.st rfl rfl (Yv.assign rfl).yl ?_
            refine QOps.st rfl rfl (Yv.assign rfl).yl ?_
            refine QOps.nil ?_
            refine Run.ret ?_
            refine retQ.of (.inr rfl) rfl (.tmp rfl (.tmp rfl .nil)) (fun w' hw' => ?_)
            have hM : addM fs f pace = fs ++ [f] := by unfold addM; rw [if_pos hyes]
            have hk2 : addK2 fs f pace = addK fs := by unfold addK2; rw [if_pos hyes]
            rw [hM, hyes, hk2, hk, List.length_append]
            first | exact ⟨_, _, rfl, hw'.bel.below, hw'.ent _ (List.mem_of_getElem? (i := 0) rfl), fun g hg => (hw'.own _ (List.mem_of_getElem? (i := 0) rfl) g hg).elim id (by simp)⟩ | exact ⟨_, _, rfl, hw'.bel.below, hw'.ent _ (List.mem_of_getElem? (i := 1) rfl), fun g hg => (hw'.own _ (List.mem_of_getElem? (i := 1) rfl) g hg).elim id (by simp)⟩ | exact ⟨_, _, rfl, hw'.bel.below, hw'.ent _ (List.mem_of_getElem? (i := 2) rfl), fun g hg => (hw'.own _ (List.mem_of_getElem? (i := 2) rfl) g hg).elim id (by simp)⟩ | exact ⟨_, _, rfl, hw'.bel.below, hw'.ent _ (List.mem_of_getElem? (i := 3) rfl), fun g hg => (hw'.own _ (List.mem_of_getElem? (i := 3) rfl) g hg).elim id (by simp)⟩ | exact ⟨_, _, rfl, hw'.bel.below, hw'.ent _ (List.mem_of_getElem? (i := 4) rfl), fun g hg => (hw'.own _ (List.mem_of_getElem? (i := 4) rfl) g hg).elim id (by simp)⟩
        · try replace hc2 := of_decide_eq_false hc2
          have hk : addK fs = 0 := by unfold addK; rw [if_neg (by omega)]
          have hL : addL fs f = fs ++ [f] := by unfold addL; rw [hk]; rfl
          refine Run.skip ?_
          refine Run.seq ?_
          refine Run.seq ?_
          refine Run.quiet (by intro h; cases h) ?_
          refine QOps.st rfl rfl (Yv.move rfl).yl ?_
          refine QOps.st rfl rfl (Yl.call callable17 (.cons rfl (.nil)) (fun w' hw' => areFixesN_spec (by first | rfl | (simp; done) | (simp; omega)) ((Rd.row (i := 1) rfl) w' hw'))) ?_
          refine QOps.st rfl rfl (Yv.not rfl).yl ?_
          refine QOps.st rfl rfl (Yv.move rfl).yl ?_
          refine' QOps.or [_, _, _, _] _ (.tmp 31) rfl rfl rfl rfl rfl rfl (fun hg2 => ?_) ?_
          rotate_left
          · try replace hg2 := of_decide_eq_false hg2
            have hok9 := areFixes_all (not_f hg2)
            refine QOps.st rfl rfl (Yv.move rfl).yl ?_
            refine QOps.st rfl rfl (Yv.move rfl).yl ?_
            refine QOps.st rfl rfl (Yl.call callable58 (.cons rfl (.cons rfl (.nil))) (fun w' hw' => areConsistentN_spec (by first | rfl | (simp; done) | (simp; omega)) ((Rd.row (i := 1) rfl) w' hw') (by assumption) (by omega) (by omega))) ?_
            refine QOps.st rfl rfl (Yv.not rfl).yl ?_
            exact QOps.nil rfl
          refine QOps.nil ?_
          refine Run.cond rfl (fun hc4 => ?_) (fun hc4 => ?_)
          · try replace hc4 := of_decide_eq_true hc4
            have hn : addOk fs f pace = false := by unfold addOk; rw [hL]; revert hc4; cases areFixes (fs ++ [f]) <;> cases consistent _ pace <;> simp
            refine Run.seq ?_
            refine Run.quiet (by intro h; cases h) ?_
            refine QOps.st rfl rfl (Yv.assign rfl).yl ?_
            refine QOps.st rfl rfl (Yv.assign rfl).yl ?_
            refine QOps.nil ?_
            refine Run.ret ?_
            refine retQ.of (.inr rfl) rfl (.tmp rfl (.tmp rfl .nil)) (fun w' hw' => ?_)
            have hM : addM fs f pace = [] := by unfold addM; rw [if_neg (by rw [hn]; simp)]
            have hk2 : addK2 fs f pace = 0 := by unfold addK2; rw [if_neg (by rw [hn]; simp)]
            rw [hM, hn, hk2]
            exact ⟨none, 0, (by rw [cutA_zero]; rfl), hw'.bel.below, ⟨by simp, .inl ⟨rfl, rfl⟩⟩, by simp⟩
          · try replace hc4 := of_decide_eq_false hc4
            have hyes : addOk fs f pace = true := by unfold addOk; rw [hL, hy.1, hy.2]; revert hc4; cases areFixes (fs ++ [f]) <;> cases consistent _ pace <;> simp
            refine Run.skip ?_
            refine Run.seq ?_
            refine Run.quiet (by intro h; cases h) ?_
            refine QOps.st rfl rfl (Yv.move rfl).yl ?_
            refine QOps.st rfl rfl (Yv.assign rfl).yl ?_
            refine QOps.st rfl rfl (Yv.assign rfl).yl ?_
            refine QOps.nil ?_
            refine Run.ret ?_
            refine retQ.of (.inr rfl) rfl (.tmp rfl (.tmp rfl .nil)) (fun w' hw' => ?_)
            have hM : addM fs f pace = fs ++ [f] := by unfold addM; rw [if_pos hyes]
            have hk2 : addK2 fs f pace = addK fs := by unfold addK2; rw [if_pos hyes]
            rw [hM, hyes, hk2, hk, List.length_append]
            first | exact ⟨_, _, (by rw [cutA_zero]; rfl), hw'.bel.below, hw'.ent _ (List.mem_of_getElem? (i := 0) rfl), fun g hg => (hw'.own _ (List.mem_of_getElem? (i := 0) rfl) g hg).elim id (by simp)⟩ | exact ⟨_, _, (by rw [cutA_zero]; rfl), hw'.bel.below, hw'.ent _ (List.mem_of_getElem? (i := 1) rfl), fun g hg => (hw'.own _ (List.mem_of_getElem? (i := 1) rfl) g hg).elim id (by simp)⟩ | exact ⟨_, _, (by rw [cutA_zero]; rfl), hw'.bel.below, hw'.ent _ (List.mem_of_getElem? (i := 2) rfl), fun g hg => (hw'.own _ (List.mem_of_getElem? (i := 2) rfl) g hg).elim id (by simp)⟩ | exact ⟨_, _, (by rw [cutA_zero]; rfl), hw'.bel.below, hw'.ent _ (List.mem_of_getElem? (i := 3) rfl), fun g hg => (hw'.own _ (List.mem_of_getElem? (i := 3) rfl) g hg).elim id (by simp)⟩ | exact ⟨_, _, (by rw [cutA_zero]; rfl), hw'.bel.below, hw'.ent _ (List.mem_of_getElem? (i := 4) rfl), fun g hg => (hw'.own _ (List.mem_of_getElem? (i := 4) rfl) g hg).elim id (by simp)⟩
      ·
        refine One.buildSliceG (pv := [(0, _)]) (cs := [_, _, _]) (fun l => match l with | [.agg ⟨[a0_0, a0_1, a0_2]⟩] => [a0_0, a0_1, a0_2] | _ => []) rfl el25 (.cons rfl (.nil)) rfl rfl (by kernel_rfl) rfl rfl (fun b3 => ?_)
        refine ⟨(List.Sublist.cons _ (List.Sublist.cons _ (List.Sublist.refl _))), ?_⟩
        refine DOps.only (listed' := #[true, true, true, true, true, false, false]) 2 rfl (by kernel_rfl) rfl rfl ?_
        refine One.append (enc := Fix.enc) (l := ([] : List Fix)) (l2 := fs) (m' := fs.length) (i := 1) (H' := fun A c => [_, _, _]) rfl el25 zero49 rfl (by decide) rfl rfl rfl (Rd.arg hs) (fun _ => rfl) (by simp) (by omega) (by omega) (fun _ _ => rfl) (fun A1 c1 => ?_)
        refine ⟨(List.Sublist.cons _ (List.Sublist.cons _ (List.Sublist.refl _))), ?_⟩
        refine DOps.only (listed' := #[true, true, true, true, true, true, false]) 5 rfl (by kernel_rfl) rfl rfl ?_
        refine One.append (enc := Fix.enc) (l := fs) (l2 := [f]) (m' := (fs.length + 1)) (i := 1) (H' := fun A c => [_, _, _]) rfl el25 zero49 rfl (by decide) rfl rfl rfl (Rd.row (i := 0) rfl) (fun _ => rfl) rfl (by omega) (by omega) (fun _ _ => rfl) (fun A2 c2 => ?_)
        refine ⟨(List.Sublist.cons _ (List.Sublist.cons _ (List.Sublist.refl _))), ?_⟩
        refine DOps.take (listed' := #[true, true, true, true, true, true, true]) 6 rfl (by kernel_rfl) rfl (List.Sublist.cons _ (List.Sublist.cons _ (List.Sublist.refl _))) rfl rfl (Yv.assign rfl) ?_
        refine DOps.done (by kernel_rfl) ?_
        refine Run.seq ?_
        refine Run.seq ?_
        refine Run.quiet (by intro h; cases h) ?_
        refine QOps.st rfl rfl (Yv.move rfl).yl ?_
        refine QOps.st rfl rfl (Yv.lenS el25s rfl).yl ?_
        refine QOps.st rfl rfl (Yv.gtr rfl rfl).yl ?_
        refine QOps.nil ?_
        refine Run.cond rfl (fun hc2 => ?_) (fun hc2 => ?_)
        · try replace hc2 := of_decide_eq_true hc2
          have hk : addK fs = 1 := by unfold addK; rw [if_pos (by omega)]
          have hL : addL fs f = (fs ++ [f]).drop 1 := by unfold addL; rw [hk, List.drop_append_of_le_length (by omega)]
          refine Run.quiet (by intro h; cases h) ?_
          refine QOps.st rfl rfl (Yv.move rfl).yl ?_
          refine QOps.st rfl rfl (Yv.cutFrom 1 el25 rfl rfl rfl (by omega)).yl ?_
          refine QOps.st rfl rfl (Yv.assign rfl).yl ?_
          refine QOps.nil ?_
          refine Run.seq ?_
          refine Run.seq ?_
          refine Run.quiet (by intro h; cases h) ?_
          refine QOps.st rfl rfl (Yv.move rfl).yl ?_
          refine QOps.st rfl rfl (Yl.call callable17 (.cons rfl (.nil)) (fun w' hw' => areFixesN_spec (by first | rfl | (simp; done) | (simp; omega)) ((Rd.cutF (xs := (fs ++ [f])) Fix.len (Rd.row (i := 1) rfl) (by simp) (by omega)) w' hw'))) ?_
          refine QOps.st rfl rfl (Yv.not rfl).yl ?_
          refine QOps.st rfl rfl (Yv.move rfl).yl ?_
          refine' QOps.or [_, _, _, _] _ (.tmp 31) rfl rfl rfl rfl rfl rfl (fun hg1 => ?_) ?_
          rotate_left
          · try replace hg1 := of_decide_eq_false hg1
            have hok9 := areFixes_all (not_f hg1)
            refine QOps.st rfl rfl (Yv.move rfl).yl ?_
            refine QOps.st rfl rfl (Yv.move rfl).yl ?_
            refine QOps.st rfl rfl (Yl.call callable58 (.cons rfl (.cons rfl (.nil))) (fun w' hw' => areConsistentN_spec (by first | rfl | (simp; done) | (simp; omega)) ((Rd.cutF (xs := (fs ++ [f])) Fix.len (Rd.row (i := 1) rfl) (by simp) (by omega)) w' hw') (by assumption) (by omega) (by omega))) ?_
            refine QOps.st rfl rfl (Yv.not rfl).yl ?_
            exact QOps.nil rfl
          refine QOps.nil ?_
          refine Run.cond rfl (fun hc3 => ?_) (fun hc3 => ?_)
          · try replace hc3 := of_decide_eq_true hc3
            have hn : addOk fs f pace = false := by unfold addOk; rw [hL]; revert hc3; cases areFixes ((fs ++ [f]).drop 1) <;> cases consistent _ pace <;> simp
            refine Run.seq ?_
            refine Run.quiet (by intro h; cases h) ?_
            refine QOps.st rfl rfl (Yv.assign rfl).yl ?_
            refine QOps.st rfl rfl (Yv.assign rfl).yl ?_
            refine QOps.nil ?_
            refine Run.ret ?_
            refine retQ.of (.inr rfl) rfl (.tmp rfl (.tmp rfl .nil)) (fun w' hw' => ?_)
            have hM : addM fs f pace = [] := by unfold addM; rw [if_neg (by rw [hn]; simp)]
            have hk2 : addK2 fs f pace = 0 := by unfold addK2; rw [if_neg (by rw [hn]; simp)]
            rw [hM, hn, hk2]
            exact ⟨none, 0, (by rw [cutA_zero]; rfl), hw'.bel.below, ⟨by simp, .inl ⟨rfl, rfl⟩⟩, by simp⟩
          · try replace hc3 := of_decide_eq_false hc3
            have hyes : addOk fs f pace = true := by unfold addOk; rw [hL, hy.1, hy.2]; revert hc3; cases areFixes ((fs ++ [f]).drop 1) <;> cases consistent _ pace <;> simp
            refine Run.skip ?_
            refine Run.seq ?_
            refine Run.quiet (by intro h; cases h) ?_
            refine QOps.st rfl rfl (Yv.move rfl).yl ?_
            refine QOps.st rfl rfl (Yv.assign rfl).yl ?_
            refine QOps.st rfl rfl (Yv.assign rfl).yl ?_
            refine QOps.nil ?_
            refine Run.ret ?_
            refine retQ.of (.inr rfl) rfl (.tmp rfl (.tmp rfl .nil)) (fun w' hw' => ?_)
            have hM : addM fs f pace = fs ++ [f] := by unfold addM; rw [if_pos hyes]
            have hk2 : addK2 fs f pace = addK fs := by unfold addK2; rw [if_pos hyes]
            rw [hM, hyes, hk2, hk, List.length_append]
            first | exact ⟨_, _, rfl, hw'.bel.below, hw'.ent _ (List.mem_of_getElem? (i := 0) rfl), fun g hg => (hw'.own _ (List.mem_of_getElem? (i := 0) rfl) g hg).elim id (by simp)⟩ | exact ⟨_, _, rfl, hw'.bel.below, hw'.ent _ (List.mem_of_getElem? (i := 1) rfl), fun g hg => (hw'.own _ (List.mem_of_getElem? (i := 1) rfl) g hg).elim id (by simp)⟩ | exact ⟨_, _, rfl, hw'.bel.below, hw'.ent _ (List.mem_of_getElem? (i := 2) rfl), fun g hg => (hw'.own _ (List.mem_of_getElem? (i := 2) rfl) g hg).elim id (by simp)⟩ | exact ⟨_, _, rfl, hw'.bel.below, hw'.ent _ (List.mem_of_getElem? (i := 3) rfl), fun g hg => (hw'.own _ (List.mem_of_getElem? (i := 3) rfl) g hg).elim id (by simp)⟩ | exact ⟨_, _, rfl, hw'.bel.below, hw'.ent _ (List.mem_of_getElem? (i := 4) rfl), fun g hg => (hw'.own _ (List.mem_of_getElem? (i := 4) rfl) g hg).elim id (by simp)⟩
        · try replace hc2 := of_decide_eq_false hc2
          have hk : addK fs = 0 := by unfold addK; rw [if_neg (by omega)]
          have hL : addL fs f = fs ++ [f] := by unfold addL; rw [hk]; rfl
          refine Run.skip ?_
          refine Run.seq ?_
          refine Run.seq ?_
          refine Run.quiet (by intro h; cases h) ?_
          refine QOps.st rfl rfl (Yv.move rfl).yl ?_
          refine QOps.st rfl rfl (Yl.call callable17 (.cons rfl (.nil)) (fun w' hw' => areFixesN_spec (by first | rfl | (simp; done) | (simp; omega)) ((Rd.row (i := 1) rfl) w' hw'))) ?_
          refine QOps.st rfl rfl (Yv.not rfl).yl ?_
          refine QOps.st rfl rfl (Yv.move rfl).yl ?_
          refine' QOps.or [_, _, _, _] _ (.tmp 31) rfl rfl rfl rfl rfl rfl (fun hg2 => ?_) ?_
          rotate_left
          · try replace hg2 := of_decide_eq_false hg2
            have hok9 := areFixes_all (not_f hg2)
            refine QOps.st rfl rfl (Yv.move rfl).yl ?_
            refine QOps.st rfl rfl (Yv.move rfl).yl ?_
            refine QOps.st rfl rfl (Yl.call callable58 (.cons rfl (.cons rfl (.nil))) (fun w' hw' => areConsistentN_spec (by first | rfl | (simp; done) | (simp; omega)) ((Rd.row (i := 1) rfl) w' hw') (by assumption) (by omega) (by omega))) ?_
            refine QOps.st rfl rfl (Yv.not rfl).yl ?_
            exact QOps.nil rfl
          refine QOps.nil ?_
          refine Run.cond rfl (fun hc4 => ?_) (fun hc4 => ?_)
          · try replace hc4 := of_decide_eq_true hc4
            have hn : addOk fs f pace = false := by unfold addOk; rw [hL]; revert hc4; cases areFixes (fs ++ [f]) <;> cases consistent _ pace <;> simp
            refine Run.seq ?_
            refine Run.quiet (by intro h; cases h) ?_
            refine QOps.st rfl rfl (Yv.assign rfl).yl ?_
            refine QOps.st rfl rfl (Yv.assign rfl).yl ?_
            refine QOps.nil ?_
            refine Run.ret ?_
            refine retQ.of (.inr rfl) rfl (.tmp rfl (.tmp rfl .nil)) (fun w' hw' => ?_)
            have hM : addM fs f pace = [] := by unfold addM; rw [if_neg (by rw [hn]; simp)]
            have hk2 : addK2 fs f pace = 0 := by unfold addK2; rw [if_neg (by rw [hn]; simp)]
            rw [hM, hn, hk2]
            exact ⟨none, 0, (by rw [cutA_zero]; rfl), hw'.bel.below, ⟨by simp, .inl ⟨rfl, rfl⟩⟩, by simp⟩
          · try replace hc4 := of_decide_eq_false hc4
            have hyes : addOk fs f pace = true := by unfold addOk; rw [hL, hy.1, hy.2]; revert hc4; cases areFixes (fs ++ [f]) <;> cases consistent _ pace <;> simp
            refine Run.skip ?_
            refine Run.seq ?_
            refine Run.quiet (by intro h; cases h) ?_
            refine QOps.st rfl rfl (Yv.move rfl).yl ?_
            refine QOps.st rfl rfl (Yv.assign rfl).yl ?_
            refine QOps.st rfl rfl (Yv.assign rfl).yl ?_
            refine QOps.nil ?_
            refine Run.ret ?_
            refine retQ.of (.inr rfl) rfl (.tmp rfl (.tmp rfl .nil)) (fun w' hw' => ?_)
            have hM : addM fs f pace = fs ++ [f] := by unfold addM; rw [if_pos hyes]
            have hk2 : addK2 fs f pace = addK fs := by unfold addK2; rw [if_pos hyes]
            rw [hM, hyes, hk2, hk, List.length_append]
            first | exact ⟨_, _, (by rw [cutA_zero]; rfl), hw'.bel.below, hw'.ent _ (List.mem_of_getElem? (i := 0) rfl), fun g hg => (hw'.own _ (List.mem_of_getElem? (i := 0) rfl) g hg).elim id (by simp)⟩ | exact ⟨_, _, (by rw [cutA_zero]; rfl), hw'.bel.below, hw'.ent _ (List.mem_of_getElem? (i := 1) rfl), fun g hg => (hw'.own _ (List.mem_of_getElem? (i := 1) rfl) g hg).elim id (by simp)⟩ | exact ⟨_, _, (by rw [cutA_zero]; rfl), hw'.bel.below, hw'.ent _ (List.mem_of_getElem? (i := 2) rfl), fun g hg => (hw'.own _ (List.mem_of_getElem? (i := 2) rfl) g hg).elim id (by simp)⟩ | exact ⟨_, _, (by rw [cutA_zero]; rfl), hw'.bel.below, hw'.ent _ (List.mem_of_getElem? (i := 3) rfl), fun g hg => (hw'.own _ (List.mem_of_getElem? (i := 3) rfl) g hg).elim id (by simp)⟩ | exact ⟨_, _, (by rw [cutA_zero]; rfl), hw'.bel.below, hw'.ent _ (List.mem_of_getElem? (i := 4) rfl), fun g hg => (hw'.own _ (List.mem_of_getElem? (i := 4) rfl) g hg).elim id (by simp)⟩
    ·
      refine One.buildSliceG (pv := [(0, _)]) (cs := [_, _, _]) (fun l => match l with | [.agg ⟨[a0_0, a0_1, a0_2]⟩] => [a0_0, a0_1, a0_2] | _ => []) rfl el25 (.cons rfl (.nil)) rfl rfl (by kernel_rfl) rfl rfl (fun b2 => ?_)
      refine ⟨(List.Sublist.cons _ (List.Sublist.refl _)), ?_⟩
      refine DOps.only (listed' := #[true, true, false, true, true, false, false]) 0 rfl (by kernel_rfl) rfl rfl ?_
      refine One.buildSliceG (pv := []) (cs := []) (fun _ => []) rfl el25 .nil rfl rfl (by kernel_rfl) rfl rfl (fun b3 => ?_)
      refine ⟨(List.Sublist.cons _ (List.Sublist.cons _ (List.Sublist.refl _))), ?_⟩
      refine DOps.only (listed' := #[true, true, true, true, true, false, false]) 2 rfl (by kernel_rfl) rfl rfl ?_
      refine One.append (enc := Fix.enc) (l := ([] : List Fix)) (l2 := fs) (m' := fs.length) (i := 0) (H' := fun A c => [_, _, _]) rfl el25 zero49 rfl (by decide) rfl rfl rfl (Rd.arg hs) (fun _ => rfl) (by simp) (by omega) (by omega) (fun _ _ => rfl) (fun A1 c1 => ?_)
      refine ⟨(List.Sublist.cons _ (List.Sublist.cons _ (List.Sublist.refl _))), ?_⟩
      refine DOps.only (listed' := #[true, true, true, true, true, true, false]) 5 rfl (by kernel_rfl) rfl rfl ?_
      refine One.append (enc := Fix.enc) (l := fs) (l2 := [f]) (m' := (fs.length + 1)) (i := 0) (H' := fun A c => [_, _, _]) rfl el25 zero49 rfl (by decide) rfl rfl rfl (Rd.row (i := 1) rfl) (fun _ => rfl) rfl (by omega) (by omega) (fun _ _ => rfl) (fun A2 c2 => ?_)
      refine ⟨(List.Sublist.cons _ (List.Sublist.cons _ (List.Sublist.refl _))), ?_⟩
      refine DOps.take (listed' := #[true, true, true, true, true, true, true]) 6 rfl (by kernel_rfl) rfl (List.Sublist.cons _ (List.Sublist.cons _ (List.Sublist.refl _))) rfl rfl (Yv.assign rfl) ?_
      refine DOps.done (by kernel_rfl) ?_
      refine Run.seq ?_
      refine Run.seq ?_
      refine Run.quiet (by intro h; cases h) ?_
      refine QOps.st rfl rfl (Yv.move rfl).yl ?_
      refine QOps.st rfl rfl (Yv.lenS el25s rfl).yl ?_
      refine QOps.st rfl rfl (Yv.gtr rfl rfl).yl ?_
      refine QOps.nil ?_
      refine Run.cond rfl (fun hc2 => ?_) (fun hc2 => ?_)
      · try replace hc2 := of_decide_eq_true hc2
        have hk : addK fs = 1 := by unfold addK; rw [if_pos (by omega)]
        have hL : addL fs f = (fs ++ [f]).drop 1 := by unfold addL; rw [hk, List.drop_append_of_le_length (by omega)]
        refine Run.quiet (by intro h; cases h) ?_
        refine QOps.st rfl rfl (Yv.move rfl).yl ?_
        refine QOps.st rfl rfl (Yv.cutFrom 1 el25 rfl rfl rfl (by omega)).yl ?_
        refine QOps.st rfl rfl (Yv.assign rfl).yl ?_
        refine QOps.nil ?_
        refine Run.seq ?_
        refine Run.seq ?_
        refine Run.quiet (by intro h; cases h) ?_
        refine QOps.st rfl rfl (Yv.move rfl).yl ?_
        refine QOps.st rfl rfl (Yl.call callable17 (.cons rfl (.nil)) (fun w' hw' => areFixesN_spec (by first | rfl | (simp; done) | (simp; omega)) ((Rd.cutF (xs := (fs ++ [f])) Fix.len (Rd.row (i := 0) rfl) (by simp) (by omega)) w' hw'))) ?_
        refine QOps.st rfl rfl (Yv.not rfl).yl ?_
        refine QOps.st rfl rfl (Yv.move rfl).yl ?_
        refine' QOps.or [_, _, _, _] _ (.tmp 31) rfl rfl rfl rfl rfl rfl (fun hg1 => ?_) ?_
        rotate_left
        · try replace hg1 := of_decide_eq_false hg1
          have hok9 := areFixes_all (not_f hg1)
          refine QOps.st rfl rfl (Yv.move rfl).yl ?_
          refine QOps.st rfl rfl (Yv.move rfl).yl ?_
          refine QOps.st rfl rfl (Yl.call callable58 (.cons rfl (.cons rfl (.nil))) (fun w' hw' => areConsistentN_spec (by first | rfl | (simp; done) | (simp; omega)) ((Rd.cutF (xs := (fs ++ [f])) Fix.len (Rd.row (i := 0) rfl) (by simp) (by omega)) w' hw') (by assumption) (by omega) (by omega))) ?_
          refine QOps.st rfl rfl (Yv.not rfl).yl ?_
          exact QOps.nil rfl
        refine QOps.nil ?_
        refine Run.cond rfl (fun hc3 => ?_) (fun hc3 => ?_)
        · try replace hc3 := of_decide_eq_true hc3
          have hn : addOk fs f pace = false := by unfold addOk; rw [hL]; revert hc3; cases areFixes ((fs ++ [f]).drop 1) <;> cases consistent _ pace <;> simp
          refine Run.seq ?_
          refine Run.quiet (by intro h; cases h) ?_
          refine QOps.st rfl rfl (Yv.assign rfl).yl ?_
          refine QOps.st rfl rfl (Yv.assign rfl).yl ?_
          refine QOps.nil ?_
          refine Run.ret ?_
          refine retQ.of (.inr rfl) rfl (.tmp rfl (.tmp rfl .nil)) (fun w' hw' => ?_)
          have hM : addM fs f pace = [] := by unfold addM; rw [if_neg (by rw [hn]; simp)]
          have hk2 : addK2 fs f pace = 0 := by unfold addK2; rw [if_neg (by rw [hn]; simp)]
          rw [hM, hn, hk2]
          exact ⟨none, 0, (by rw [cutA_zero]; rfl), hw'.bel.below, ⟨by simp, .inl ⟨rfl, rfl⟩⟩, by simp⟩
        · try replace hc3 := of_decide_eq_false hc3
          have hyes : addOk fs f pace = true := by unfold addOk; rw [hL, hy.1, hy.2]; revert hc3; cases areFixes ((fs ++ [f]).drop 1) <;> cases consistent _ pace <;> simp
          refine Run.skip ?_
          refine Run.seq ?_
          refine Run.quiet (by intro h; cases h) ?_
          refine QOps.st rfl rfl (Yv.move rfl).yl ?_
          refine QOps.st rfl rfl (Yv.assign rfl).yl ?_
          refine QOps.st rfl rfl (Yv.assign rfl).yl ?_
          refine QOps.nil ?_
          refine Run.ret ?_
          refine retQ.of (.inr rfl) rfl (.tmp rfl (.tmp rfl .nil)) (fun w' hw' => ?_)
          have hM : addM fs f pace = fs ++ [f] := by unfold addM; rw [if_pos hyes]
          have hk2 : addK2 fs f pace = addK fs := by unfold addK2; rw [if_pos hyes]
          rw [hM, hyes, hk2, hk, List.length_append]
          first | exact ⟨_, _, rfl, hw'.bel.below, hw'.ent _ (List.mem_of_getElem? (i := 0) rfl), fun g hg => (hw'.own _ (List.mem_of_getElem? (i := 0) rfl) g hg).elim id (by simp)⟩ | exact ⟨_, _, rfl, hw'.bel.below, hw'.ent _ (List.mem_of_getElem? (i := 1) rfl), fun g hg => (hw'.own _ (List.mem_of_getElem? (i := 1) rfl) g hg).elim id (by simp)⟩ | exact ⟨_, _, rfl, hw'.bel.below, hw'.ent _ (List.mem_of_getElem? (i := 2) rfl), fun g hg => (hw'.own _ (List.mem_of_getElem? (i := 2) rfl) g hg).elim id (by simp)⟩ | exact ⟨_, _, rfl, hw'.bel.below, hw'.ent _ (List.mem_of_getElem? (i := 3) rfl), fun g hg => (hw'.own _ (List.mem_of_getElem? (i := 3) rfl) g hg).elim id (by simp)⟩ | exact ⟨_, _, rfl, hw'.bel.below, hw'.ent _ (List.mem_of_getElem? (i := 4) rfl), fun g hg => (hw'.own _ (List.mem_of_getElem? (i := 4) rfl) g hg).elim id (by simp)⟩
      · try replace hc2 := of_decide_eq_false hc2
        have hk : addK fs = 0 := by unfold addK; rw [if_neg (by omega)]
        have hL : addL fs f = fs ++ [f] := by unfold addL; rw [hk]; rfl
        refine Run.skip ?_
        refine Run.seq ?_
        refine Run.seq ?_
        refine Run.quiet (by intro h; cases h) ?_
        refine QOps.st rfl rfl (Yv.move rfl).yl ?_
        refine QOps.st rfl rfl (Yl.call callable17 (.cons rfl (.nil)) (fun w' hw' => areFixesN_spec (by first | rfl | (simp; done) | (simp; omega)) ((Rd.row (i := 0) rfl) w' hw'))) ?_
        refine QOps.st rfl rfl (Yv.not rfl).yl ?_
        refine QOps.st rfl rfl (Yv.move rfl).yl ?_
        refine' QOps.or [_, _, _, _] _ (.tmp 31) rfl rfl rfl rfl rfl rfl (fun hg2 => ?_) ?_
        rotate_left
        · try replace hg2 := of_decide_eq_false hg2
          have hok9 := areFixes_all (not_f hg2)
          refine QOps.st rfl rfl (Yv.move rfl).yl ?_
          refine QOps.st rfl rfl (Yv.move rfl).yl ?_
          refine QOps.st rfl rfl (Yl.call callable58 (.cons rfl (.cons rfl (.nil))) (fun w' hw' => areConsistentN_spec (by first | rfl | (simp; done) | (simp; omega)) ((Rd.row (i := 0) rfl) w' hw') (by assumption) (by omega) (by omega))) ?_
          refine QOps.st rfl rfl (Yv.not rfl).yl ?_
          exact QOps.nil rfl
        refine QOps.nil ?_
        refine Run.cond rfl (fun hc4 => ?_) (fun hc4 => ?_)
        · try replace hc4 := of_decide_eq_true hc4
          have hn : addOk fs f pace = false := by unfold addOk; rw [hL]; revert hc4; cases areFixes (fs ++ [f]) <;> cases consistent _ pace <;> simp
          refine Run.seq ?_
          refine Run.quiet (by intro h; cases h) ?_
          refine QOps.st rfl rfl (Yv.assign rfl).yl ?_
          refine QOps.st rfl rfl (Yv.assign rfl).yl ?_
          refine QOps.nil ?_
          refine Run.ret ?_
          refine retQ.of (.inr rfl) rfl (.tmp rfl (.tmp rfl .nil)) (fun w' hw' => ?_)
          have hM : addM fs f pace = [] := by unfold addM; rw [if_neg (by rw [hn]; simp)]
          have hk2 : addK2 fs f pace = 0 := by unfold addK2; rw [if_neg (by rw [hn]; simp)]
          rw [hM, hn, hk2]
          exact ⟨none, 0, (by rw [cutA_zero]; rfl), hw'.bel.below, ⟨by simp, .inl ⟨rfl, rfl⟩⟩, by simp⟩
        · try replace hc4 := of_decide_eq_false hc4
          have hyes : addOk fs f pace = true := by unfold addOk; rw [hL, hy.1, hy.2]; revert hc4; cases areFixes (fs ++ [f]) <;> cases consistent _ pace <;> simp
          refine Run.skip ?_
          refine Run.seq ?_
          refine Run.quiet (by intro h; cases h) ?_
          refine QOps.st rfl rfl (Yv.move rfl).yl ?_
          refine QOps.st rfl rfl (Yv.assign rfl).yl ?_
          refine QOps.st rfl rfl (Yv.assign rfl).yl ?_
          refine QOps.nil ?_
          refine Run.ret ?_
          refine retQ.of (.inr rfl) rfl (.tmp rfl (.tmp rfl .nil)) (fun w' hw' => ?_)
          have hM : addM fs f pace = fs ++ [f] := by unfold addM; rw [if_pos hyes]
          have hk2 : addK2 fs f pace = addK fs := by unfold addK2; rw [if_pos hyes]
          rw [hM, hyes, hk2, hk, List.length_append]
          first | exact ⟨_, _, (by rw [cutA_zero]; rfl), hw'.bel.below, hw'.ent _ (List.mem_of_getElem? (i := 0) rfl), fun g hg => (hw'.own _ (List.mem_of_getElem? (i := 0) rfl) g hg).elim id (by simp)⟩ | exact ⟨_, _, (by rw [cutA_zero]; rfl), hw'.bel.below, hw'.ent _ (List.mem_of_getElem? (i := 1) rfl), fun g hg => (hw'.own _ (List.mem_of_getElem? (i := 1) rfl) g hg).elim id (by simp)⟩ | exact ⟨_, _, (by rw [cutA_zero]; rfl), hw'.bel.below, hw'.ent _ (List.mem_of_getElem? (i := 2) rfl), fun g hg => (hw'.own _ (List.mem_of_getElem? (i := 2) rfl) g hg).elim id (by simp)⟩ | exact ⟨_, _, (by rw [cutA_zero]; rfl), hw'.bel.below, hw'.ent _ (List.mem_of_getElem? (i := 3) rfl), fun g hg => (hw'.own _ (List.mem_of_getElem? (i := 3) rfl) g hg).elim id (by simp)⟩ | exact ⟨_, _, (by rw [cutA_zero]; rfl), hw'.bel.below, hw'.ent _ (List.mem_of_getElem? (i := 4) rfl), fun g hg => (hw'.own _ (List.mem_of_getElem? (i := 4) rfl) g hg).elim id (by simp)⟩
theorem sAddFix_spec {w : World} {A : Option Addr} {c : Nat} {fs : List Fix} {f : Fix} {pace : Int} (hs : Sl w 3 A fs.length c (fs.flatMap Fix.enc)) :
    Calls Try.prog 32 #[.slice A fs.length c, .agg f.enc.toArray, .int .i64 pace] w (RetRow w 49 3 (addR fs f pace).length ((addR fs f pace).flatMap Fix.enc) (fun v => .tuple #[v, .bool (addOk fs f pace)])) := by
  have hmx := Sl.lenle hs
  have hcap := hs.cap
  refine calls_of_run (vs := [_, _, _]) (L := [(0, _), (1, _), (2, _)]) (n := 41) (F := []) (H := []) Try.func32 rfl rfl rfl rfl (HOk.start _) ?_
  refine Run.seq ?_
  refine Run.ops ?_
  refine SOps.one rfl (One.box (cs := [_, _, _]) rfl rfl rfl (fun b1 => ?_))
  refine SOps.st rfl rfl (Yv.assign rfl).yl ?_
  refine SOps.st rfl rfl (Yv.assign rfl).yl ?_
  refine SOps.nil ?_
  refine Run.seq ?_
  refine Run.seq ?_
  refine Run.quiet (by intro h; cases h) ?_
  refine QOps.st rfl rfl (Yv.move rfl).yl ?_
  refine QOps.st rfl rfl (Yl.call callable51 (.cons rfl (.nil)) (fun w' hw' => l21GoodN_spec (by first | rfl | (simp; done) | (simp; omega)) ((Rd.arg hs) w' hw'))) ?_
  refine QOps.st rfl rfl (Yv.not rfl).yl ?_
  refine QOps.st rfl rfl (Yv.move rfl).yl ?_
  refine' QOps.or [_, _, _] _ (.tmp 16) rfl rfl rfl rfl rfl rfl (fun hg1 => ?_) ?_
  rotate_left
  · try replace hg1 := of_decide_eq_false hg1
    refine QOps.st rfl rfl (Yv.move rfl).yl ?_
    refine QOps.st rfl rfl (Yl.call callable55 (.cons rfl (.nil)) (fun w' hw' => l21Pace_spec)) ?_
    refine QOps.st rfl rfl (Yv.not rfl).yl ?_
    exact QOps.nil rfl
  refine QOps.nil ?_
  refine Run.cond rfl (fun hc1 => ?_) (fun hc1 => ?_)
  · try replace hc1 := of_decide_eq_true hc1
    have hn : addOk fs f pace = false := by unfold addOk; revert hc1; cases areFixes fs <;> cases inB pace 0 500 <;> simp
    refine Run.seq ?_
    refine Run.ops ?_
    refine SOps.one rfl (One.buildSliceG (pv := []) (cs := []) (fun _ => []) rfl el25 .nil rfl rfl (by kernel_rfl) rfl rfl (fun b2 => ?_))
    refine SOps.st rfl rfl (Yv.assign rfl).yl ?_
    refine SOps.st rfl rfl (Yv.assign rfl).yl ?_
    refine SOps.nil ?_
    refine Run.ret ?_
    refine retQ.of (.inr rfl) rfl (.tmp rfl (.tmp rfl .nil)) (fun w' hw' => ?_)
    have hR : addR fs f pace = [] := by unfold addR; rw [if_neg (by rw [hn]; simp)]
    rw [hR, hn]
    first | exact ⟨_, _, rfl, hw'.bel.below, hw'.ent _ (List.mem_of_getElem? (i := 0) rfl), fun g hg => (hw'.own _ (List.mem_of_getElem? (i := 0) rfl) g hg).elim id (by simp)⟩ | exact ⟨_, _, rfl, hw'.bel.below, hw'.ent _ (List.mem_of_getElem? (i := 1) rfl), fun g hg => (hw'.own _ (List.mem_of_getElem? (i := 1) rfl) g hg).elim id (by simp)⟩ | exact ⟨_, _, rfl, hw'.bel.below, hw'.ent _ (List.mem_of_getElem? (i := 2) rfl), fun g hg => (hw'.own _ (List.mem_of_getElem? (i := 2) rfl) g hg).elim id (by simp)⟩ | exact ⟨_, _, rfl, hw'.bel.below, hw'.ent _ (List.mem_of_getElem? (i := 3) rfl), fun g hg => (hw'.own _ (List.mem_of_getElem? (i := 3) rfl) g hg).elim id (by simp)⟩ | exact ⟨_, _, rfl, hw'.bel.below, hw'.ent _ (List.mem_of_getElem? (i := 4) rfl), fun g hg => (hw'.own _ (List.mem_of_getElem? (i := 4) rfl) g hg).elim id (by simp)⟩
  · try replace hc1 := of_decide_eq_false hc1
    have hy : areFixes fs = true ∧ inB pace 0 500 = true := by revert hc1; cases areFixes fs <;> cases inB pace 0 500 <;> simp
    have hb := inB_iff.1 hy.2
    have hl := areFixes_ok hy.1
    refine Run.skip ?_
    refine Run.seq ?_
    refine Run.quiet (by intro h; cases h) ?_
    refine QOps.st rfl rfl (Yv.assign rfl).yl ?_
    refine QOps.nil ?_
    refine Run.seq ?_
    refine Run.seq ?_
    refine Run.quiet (by intro h; cases h) ?_
    refine QOps.st rfl rfl (Yv.move rfl).yl ?_
    refine QOps.st rfl rfl (Yv.lenS el25s rfl).yl ?_
    refine QOps.st rfl rfl (Yv.eqI rfl rfl).yl ?_
    refine QOps.nil ?_
    refine Run.cond rfl (fun hc2 => ?_) (fun hc2 => ?_)
    · try replace hc2 := of_decide_eq_true hc2
      have hk : addK fs = 1 := by unfold addK; rw [if_pos (by omega)]
      have hL : addL fs f = fs.drop 1 ++ [f] := by unfold addL; rw [hk]
      refine Run.quiet (by intro h; cases h) ?_
      refine QOps.st rfl rfl (Yv.assign rfl).yl ?_
      refine QOps.nil ?_
      refine Run.seq ?_
      refine Run.draws (fun H => H) (m := 9) (listed := #[false, false, false, false, false, false, false, false, false]) (by kernel_rfl) rfl rfl ?_
      refine DOps.take (listed' := #[false, true, false, false, false, false, false, false, false]) 1 rfl (by kernel_rfl) rfl (List.Sublist.refl _) rfl rfl (Yv.move rfl) ?_
      refine DOps.take (listed' := #[false, true, true, false, false, false, false, false, false]) 2 rfl (by kernel_rfl) rfl (List.Sublist.refl _) rfl rfl (Yv.move rfl) ?_
      refine DOps.take (listed' := #[false, true, true, true, false, false, false, false, false]) 3 rfl (by kernel_rfl) rfl (List.Sublist.refl _) rfl rfl (Yv.cutFrom 1 el25 rfl rfl rfl (by omega)) ?_
      refine DOps.take (listed' := #[false, true, true, true, false, true, false, false, false]) 5 rfl (by kernel_rfl) rfl (List.Sublist.refl _) rfl rfl (Yv.loadBs (i := 0) lay49 rfl rfl rfl rfl) ?_
      refine DOps.fork2 (l1 := #[true, true, true, true, false, true, false, false, false]) (l2 := #[false, true, true, true, false, true, true, false, false]) 0 6 rfl rfl (by kernel_rfl) rfl rfl rfl rfl ?_ ?_
      ·
        refine One.buildSliceG (pv := []) (cs := []) (fun _ => []) rfl el25 .nil rfl rfl (by kernel_rfl) rfl rfl (fun b3 => ?_)
        refine ⟨(List.Sublist.cons _ (List.Sublist.refl _)), ?_⟩
        refine DOps.fork2 (l1 := #[true, true, true, true, true, true, false, false, false]) (l2 := #[true, true, true, true, false, true, true, false, false]) 4 6 rfl rfl (by kernel_rfl) rfl rfl rfl rfl ?_ ?_
        ·
          refine One.append (enc := Fix.enc) (l := ([] : List Fix)) (l2 := (fs.drop 1)) (m' := (fs.length - 1)) (i := 0) (H' := fun A c => [_, _]) rfl el25 zero49 rfl (by decide) rfl rfl rfl (Rd.cutF Fix.len (Rd.arg hs) rfl (by omega)) (fun _ => rfl) (by simp) (by omega) (by omega) (fun _ _ => rfl) (fun A1 c1 => ?_)
          refine ⟨(List.Sublist.cons _ (List.Sublist.refl _)), ?_⟩
          refine DOps.only (listed' := #[true, true, true, true, true, true, true, false, false]) 6 rfl (by kernel_rfl) rfl rfl ?_
          refine One.buildSliceG (pv := [(0, _)]) (cs := [_, _, _]) (fun l => match l with | [.agg ⟨[a0_0, a0_1, a0_2]⟩] => [a0_0, a0_1, a0_2] | _ => []) rfl el25 (.cons rfl (.nil)) rfl rfl (by kernel_rfl) rfl rfl (fun b4 => ?_)
          refine ⟨(List.Sublist.cons _ (List.Sublist.cons _ (List.Sublist.refl _))), ?_⟩
          refine DOps.only (listed' := #[true, true, true, true, true, true, true, true, false]) 7 rfl (by kernel_rfl) rfl rfl ?_
          refine One.append (enc := Fix.enc) (l := (fs.drop 1)) (l2 := [f]) (m' := (fs.length - 1 + 1)) (i := 1) (H' := fun A c => [_, _, _]) rfl el25 zero49 rfl (by decide) rfl rfl rfl (Rd.row (i := 0) rfl) (fun _ => rfl) rfl (by omega) (by omega) (fun _ _ => rfl) (fun A2 c2 => ?_)
          refine ⟨(List.Sublist.cons _ (List.Sublist.cons _ (List.Sublist.refl _))), ?_⟩
          refine DOps.take (listed' := #[true, true, true, true, true, true, true, true, true]) 8 rfl (by kernel_rfl) rfl (List.Sublist.cons _ (List.Sublist.cons _ (List.Sublist.refl _))) rfl rfl (Yv.assign rfl) ?_
          refine DOps.done (by kernel_rfl) ?_
          refine Run.seq ?_
          refine Run.seq ?_
          refine Run.quiet (by intro h; cases h) ?_
          refine QOps.st rfl rfl (Yv.move rfl).yl ?_
          refine QOps.st rfl rfl (Yl.call callable51 (.cons rfl (.nil)) (fun w' hw' => l21GoodN_spec (by first | rfl | (simp; done) | (simp; omega)) ((Rd.row (i := 1) rfl) w' hw'))) ?_
          refine QOps.st rfl rfl (Yv.not rfl).yl ?_
          refine QOps.st rfl rfl (Yv.move rfl).yl ?_
          refine' QOps.or [_, _, _, _] _ (.tmp 37) rfl rfl rfl rfl rfl rfl (fun hg2 => ?_) ?_
          rotate_left
          · try replace hg2 := of_decide_eq_false hg2
            have hok9 := areFixes_all (not_f hg2)
            refine QOps.st rfl rfl (Yv.move rfl).yl ?_
            refine QOps.st rfl rfl (Yv.move rfl).yl ?_
            refine QOps.st rfl rfl (Yl.call callable56 (.cons rfl (.cons rfl (.nil))) (fun w' hw' => l21ConsistentN_spec (by first | rfl | (simp; done) | (simp; omega)) ((Rd.row (i := 1) rfl) w' hw') (by assumption) (by omega) (by omega))) ?_
            refine QOps.st rfl rfl (Yv.not rfl).yl ?_
            exact QOps.nil rfl
          refine QOps.nil ?_
          refine Run.cond rfl (fun hc3 => ?_) (fun hc3 => ?_)
          · try replace hc3 := of_decide_eq_true hc3
            have hn : addOk fs f pace = false := by unfold addOk; rw [hL]; revert hc3; cases areFixes (fs.drop 1 ++ [f]) <;> cases consistent _ pace <;> simp
            refine Run.seq ?_
            refine Run.ops ?_
            refine SOps.one rfl (One.buildSliceG (pv := []) (cs := []) (fun _ => []) rfl el25 .nil rfl rfl (by kernel_rfl) rfl rfl (fun b5 => ?_))
            refine SOps.st rfl rfl (Yv.assign rfl).yl ?_
            refine SOps.st rfl rfl (Yv.assign rfl).yl ?_
            refine SOps.nil ?_
            refine Run.ret ?_
            refine retQ.of (.inr rfl) rfl (.tmp rfl (.tmp rfl .nil)) (fun w' hw' => ?_)
            have hR : addR fs f pace = [] := by unfold addR; rw [if_neg (by rw [hn]; simp)]
            rw [hR, hn]
            first | exact ⟨_, _, rfl, hw'.bel.below, hw'.ent _ (List.mem_of_getElem? (i := 0) rfl), fun g hg => (hw'.own _ (List.mem_of_getElem? (i := 0) rfl) g hg).elim id (by simp)⟩ | exact ⟨_, _, rfl, hw'.bel.below, hw'.ent _ (List.mem_of_getElem? (i := 1) rfl), fun g hg => (hw'.own _ (List.mem_of_getElem? (i := 1) rfl) g hg).elim id (by simp)⟩ | exact ⟨_, _, rfl, hw'.bel.below, hw'.ent _ (List.mem_of_getElem? (i := 2) rfl), fun g hg => (hw'.own _ (List.mem_of_getElem? (i := 2) rfl) g hg).elim id (by simp)⟩ | exact ⟨_, _, rfl, hw'.bel.below, hw'.ent _ (List.mem_of_getElem? (i := 3) rfl), fun g hg => (hw'.own _ (List.mem_of_getElem? (i := 3) rfl) g hg).elim id (by simp)⟩ | exact ⟨_, _, rfl, hw'.bel.below, hw'.ent _ (List.mem_of_getElem? (i := 4) rfl), fun g hg => (hw'.own _ (List.mem_of_getElem? (i := 4) rfl) g hg).elim id (by simp)⟩
          · try replace hc3 := of_decide_eq_false hc3
            have hyes : addOk fs f pace = true := by unfold addOk; rw [hL, hy.1, hy.2]; revert hc3; cases areFixes (fs.drop 1 ++ [f]) <;> cases consistent _ pace <;> simp
            refine Run.skip ?_
            refine Run.seq ?_
            refine Run.quiet (by intro h; cases h) ?_
            refine QOps.st rfl rfl (Yv.move rfl).yl ?_
            refine QOps.st rfl rfl (Yv.assign rfl).yl ?_
            refine QOps.st rfl rfl (Yv.assign rfl).yl ?_
            refine QOps.nil ?_
            refine Run.ret ?_
            refine retQ.of (.inr rfl) rfl (.tmp rfl (.tmp rfl .nil)) (fun w' hw' => ?_)
            have hR : addR fs f pace = fs.drop 1 ++ [f] := by unfold addR; rw [if_pos hyes, hL]
            rw [hR, hyes, show (fs.drop 1 ++ [f]).length = fs.length - 1 + 1 by simp]
            first | exact ⟨_, _, rfl, hw'.bel.below, hw'.ent _ (List.mem_of_getElem? (i := 0) rfl), fun g hg => (hw'.own _ (List.mem_of_getElem? (i := 0) rfl) g hg).elim id (by simp)⟩ | exact ⟨_, _, rfl, hw'.bel.below, hw'.ent _ (List.mem_of_getElem? (i := 1) rfl), fun g hg => (hw'.own _ (List.mem_of_getElem? (i := 1) rfl) g hg).elim id (by simp)⟩ | exact ⟨_, _, rfl, hw'.bel.below, hw'.ent _ (List.mem_of_getElem? (i := 2) rfl), fun g hg => (hw'.own _ (List.mem_of_getElem? (i := 2) rfl) g hg).elim id (by simp)⟩ | exact ⟨_, _, rfl, hw'.bel.below, hw'.ent _ (List.mem_of_getElem? (i := 3) rfl), fun g hg => (hw'.own _ (List.mem_of_getElem? (i := 3) rfl) g hg).elim id (by simp)⟩ | exact ⟨_, _, rfl, hw'.bel.below, hw'.ent _ (List.mem_of_getElem? (i := 4) rfl), fun g hg => (hw'.own _ (List.mem_of_getElem? (i := 4) rfl) g hg).elim id (by simp)⟩
        ·
          refine One.buildSliceG (pv := [(0, _)]) (cs := [_, _, _]) (fun l => match l with | [.agg ⟨[a0_0, a0_1, a0_2]⟩] => [a0_0, a0_1, a0_2] | _ => []) rfl el25 (.cons rfl (.nil)) rfl rfl (by kernel_rfl) rfl rfl (fun b4 => ?_)
          refine ⟨(List.Sublist.cons _ (List.Sublist.cons _ (List.Sublist.refl _))), ?_⟩
          refine DOps.only (listed' := #[true, true, true, true, true, true, true, false, false]) 4 rfl (by kernel_rfl) rfl rfl ?_
          refine One.append (enc := Fix.enc) (l := ([] : List Fix)) (l2 := (fs.drop 1)) (m' := (fs.length - 1)) (i := 1) (H' := fun A c => [_, _, _]) rfl el25 zero49 rfl (by decide) rfl rfl rfl (Rd.cutF Fix.len (Rd.arg hs) rfl (by omega)) (fun _ => rfl) (by simp) (by omega) (by omega) (fun _ _ => rfl) (fun A1 c1 => ?_)
          refine ⟨(List.Sublist.cons _ (List.Sublist.cons _ (List.Sublist.refl _))), ?_⟩
          refine DOps.only (listed' := #[true, true, true, true, true, true, true, true, false]) 7 rfl (by kernel_rfl) rfl rfl ?_
          refine One.append (enc := Fix.enc) (l := (fs.drop 1)) (l2 := [f]) (m' := (fs.length - 1 + 1)) (i := 1) (H' := fun A c => [_, _, _]) rfl el25 zero49 rfl (by decide) rfl rfl rfl (Rd.row (i := 0) rfl) (fun _ => rfl) rfl (by omega) (by omega) (fun _ _ => rfl) (fun A2 c2 => ?_)
          refine ⟨(List.Sublist.cons _ (List.Sublist.cons _ (List.Sublist.refl _))), ?_⟩
          refine DOps.take (listed' := #[true, true, true, true, true, true, true, true, true]) 8 rfl (by kernel_rfl) rfl (List.Sublist.cons _ (List.Sublist.cons _ (List.Sublist.refl _))) rfl rfl (Yv.assign rfl) ?_
          refine DOps.done (by kernel_rfl) ?_
          refine Run.seq ?_
          refine Run.seq ?_
          refine Run.quiet (by intro h; cases h) ?_
          refine QOps.st rfl rfl (Yv.move rfl).yl ?_
          refine QOps.st rfl rfl (Yl.call callable51 (.cons rfl (.nil)) (fun w' hw' => l21GoodN_spec (by first | rfl | (simp; done) | (simp; omega)) ((Rd.row (i := 1) rfl) w' hw'))) ?_
          refine QOps.st rfl rfl (Yv.not rfl).yl ?_
          refine QOps.st rfl rfl (Yv.move rfl).yl ?_
          refine' QOps.or [_, _, _, _] _ (.tmp 37) rfl rfl rfl rfl rfl rfl (fun hg2 => ?_) ?_
          rotate_left
          · try replace hg2 := of_decide_eq_false hg2
            have hok9 := areFixes_all (not_f hg2)
            refine QOps.st rfl rfl (Yv.move rfl).yl ?_
            refine QOps.st rfl rfl (Yv.move rfl).yl ?_
            refine QOps.st rfl rfl (Yl.call callable56 (.cons rfl (.cons rfl (.nil))) (fun w' hw' => l21ConsistentN_spec (by first | rfl | (simp; done) | (simp; omega)) ((Rd.row (i := 1) rfl) w' hw') (by assumption) (by omega) (by omega))) ?_
            refine QOps.st rfl rfl (Yv.not rfl).yl ?_
            exact QOps.nil rfl
          refine QOps.nil ?_
          refine Run.cond rfl (fun hc3 => ?_) (fun hc3 => ?_)
          · try replace hc3 := of_decide_eq_true hc3
            have hn : addOk fs f pace = false := by unfold addOk; rw [hL]; revert hc3; cases areFixes (fs.drop 1 ++ [f]) <;> cases consistent _ pace <;> simp
            refine Run.seq ?_
            refine Run.ops ?_
            refine SOps.one rfl (One.buildSliceG (pv := []) (cs := []) (fun _ => []) rfl el25 .nil rfl rfl (by kernel_rfl) rfl rfl (fun b5 => ?_))
            refine SOps.st rfl rfl (Yv.assign rfl).yl ?_
            refine SOps.st rfl rfl (Yv.assign rfl).yl ?_
            refine SOps.nil ?_
            refine Run.ret ?_
            refine retQ.of (.inr rfl) rfl (.tmp rfl (.tmp rfl .nil)) (fun w' hw' => ?_)
            have hR : addR fs f pace = [] := by unfold addR; rw [if_neg (by rw [hn]; simp)]
            rw [hR, hn]
            first | exact ⟨_, _, rfl, hw'.bel.below, hw'.ent _ (List.mem_of_getElem? (i := 0) rfl), fun g hg => (hw'.own _ (List.mem_of_getElem? (i := 0) rfl) g hg).elim id (by simp)⟩ | exact ⟨_, _, rfl, hw'.bel.below, hw'.ent _ (List.mem_of_getElem? (i := 1) rfl), fun g hg => (hw'.own _ (List.mem_of_getElem? (i := 1) rfl) g hg).elim id (by simp)⟩ | exact ⟨_, _, rfl, hw'.bel.below, hw'.ent _ (List.mem_of_getElem? (i := 2) rfl), fun g hg => (hw'.own _ (List.mem_of_getElem? (i := 2) rfl) g hg).elim id (by simp)⟩ | exact ⟨_, _, rfl, hw'.bel.below, hw'.ent _ (List.mem_of_getElem? (i := 3) rfl), fun g hg => (hw'.own _ (List.mem_of_getElem? (i := 3) rfl) g hg).elim id (by simp)⟩ | exact ⟨_, _, rfl, hw'.bel.below, hw'.ent _ (List.mem_of_getElem? (i := 4) rfl), fun g hg => (hw'.own _ (List.mem_of_getElem? (i := 4) rfl) g hg).elim id (by simp)⟩
          · try replace hc3 := of_decide_eq_false hc3
            have hyes : addOk fs f pace = true := by unfold addOk; rw [hL, hy.1, hy.2]; revert hc3; cases areFixes (fs.drop 1 ++ [f]) <;> cases consistent _ pace <;> simp
            refine Run.skip ?_
            refine Run.seq ?_
            refine Run.quiet (by intro h; cases h) ?_
            refine QOps.st rfl rfl (Yv.move rfl).yl ?_
            refine QOps.st rfl rfl (Yv.assign rfl).yl ?_
            refine QOps.st rfl rfl (Yv.assign rfl).yl ?_
            refine QOps.nil ?_
            refine Run.ret ?_
            refine retQ.of (.inr rfl) rfl (.tmp rfl (.tmp rfl .nil)) (fun w' hw' => ?_)
            have hR : addR fs f pace = fs.drop 1 ++ [f] := by unfold addR; rw [if_pos hyes, hL]
            rw [hR, hyes, show (fs.drop 1 ++ [f]).length = fs.length - 1 + 1 by simp]
            first | exact ⟨_, _, rfl, hw'.bel.below, hw'.ent _ (List.mem_of_getElem? (i := 0) rfl), fun g hg => (hw'.own _ (List.mem_of_getElem? (i := 0) rfl) g hg).elim id (by simp)⟩ | exact ⟨_, _, rfl, hw'.bel.below, hw'.ent _ (List.mem_of_getElem? (i := 1) rfl), fun g hg => (hw'.own _ (List.mem_of_getElem? (i := 1) rfl) g hg).elim id (by simp)⟩ | exact ⟨_, _, rfl, hw'.bel.below, hw'.ent _ (List.mem_of_getElem? (i := 2) rfl), fun g hg => (hw'.own _ (List.mem_of_getElem? (i := 2) rfl) g hg).elim id (by simp)⟩ | exact ⟨_, _, rfl, hw'.bel.below, hw'.ent _ (List.mem_of_getElem? (i := 3) rfl), fun g hg => (hw'.own _ (List.mem_of_getElem? (i := 3) rfl) g hg).elim id (by simp)⟩ | exact ⟨_, _, rfl, hw'.bel.below, hw'.ent _ (List.mem_of_getElem? (i := 4) rfl), fun g hg => (hw'.own _ (List.mem_of_getElem? (i := 4) rfl) g hg).elim id (by simp)⟩
      ·
        refine One.buildSliceG (pv := [(0, _)]) (cs := [_, _, _]) (fun l => match l with | [.agg ⟨[a0_0, a0_1, a0_2]⟩] => [a0_0, a0_1, a0_2] | _ => []) rfl el25 (.cons rfl (.nil)) rfl rfl (by kernel_rfl) rfl rfl (fun b3 => ?_)
        refine ⟨(List.Sublist.cons _ (List.Sublist.refl _)), ?_⟩
        refine DOps.only (listed' := #[true, true, true, true, false, true, true, false, false]) 0 rfl (by kernel_rfl) rfl rfl ?_
        refine One.buildSliceG (pv := []) (cs := []) (fun _ => []) rfl el25 .nil rfl rfl (by kernel_rfl) rfl rfl (fun b4 => ?_)
        refine ⟨(List.Sublist.cons _ (List.Sublist.cons _ (List.Sublist.refl _))), ?_⟩
        refine DOps.only (listed' := #[true, true, true, true, true, true, true, false, false]) 4 rfl (by kernel_rfl) rfl rfl ?_
        refine One.append (enc := Fix.enc) (l := ([] : List Fix)) (l2 := (fs.drop 1)) (m' := (fs.length - 1)) (i := 0) (H' := fun A c => [_, _, _]) rfl el25 zero49 rfl (by decide) rfl rfl rfl (Rd.cutF Fix.len (Rd.arg hs) rfl (by omega)) (fun _ => rfl) (by simp) (by omega) (by omega) (fun _ _ => rfl) (fun A1 c1 => ?_)
        refine ⟨(List.Sublist.cons _ (List.Sublist.cons _ (List.Sublist.refl _))), ?_⟩
        refine DOps.only (listed' := #[true, true, true, true, true, true, true, true, false]) 7 rfl (by kernel_rfl) rfl rfl ?_
        refine One.append (enc := Fix.enc) (l := (fs.drop 1)) (l2 := [f]) (m' := (fs.length - 1 + 1)) (i := 0) (H' := fun A c => [_, _, _]) rfl el25 zero49 rfl (by decide) rfl rfl rfl (Rd.row (i := 1) rfl) (fun _ => rfl) rfl (by omega) (by omega) (fun _ _ => rfl) (fun A2 c2 => ?_)
        refine ⟨(List.Sublist.cons _ (List.Sublist.cons _ (List.Sublist.refl _))), ?_⟩
        refine DOps.take (listed' := #[true, true, true, true, true, true, true, true, true]) 8 rfl (by kernel_rfl) rfl (List.Sublist.cons _ (List.Sublist.cons _ (List.Sublist.refl _))) rfl rfl (Yv.assign rfl) ?_
        refine DOps.done (by kernel_rfl) ?_
        refine Run.seq ?_
        refine Run.seq ?_
        refine Run.quiet (by intro h; cases h) ?_
        refine QOps.st rfl rfl (Yv.move rfl).yl ?_
        refine QOps.st rfl rfl (Yl.call callable51 (.cons rfl (.nil)) (fun w' hw' => l21GoodN_spec (by first | rfl | (simp; done) | (simp; omega)) ((Rd.row (i := 0) rfl) w' hw'))) ?_
        refine QOps.st rfl rfl (Yv.not rfl).yl ?_
        refine QOps.st rfl rfl (Yv.move rfl).yl ?_
        refine' QOps.or [_, _, _, _] _ (.tmp 37) rfl rfl rfl rfl rfl rfl (fun hg2 => ?_) ?_
        rotate_left
        · try replace hg2 := of_decide_eq_false hg2
          have hok9 := areFixes_all (not_f hg2)
          refine QOps.st rfl rfl (Yv.move rfl).yl ?_
          refine QOps.st rfl rfl (Yv.move rfl).yl ?_
          refine QOps.st rfl rfl (Yl.call callable56 (.cons rfl (.cons rfl (.nil))) (fun w' hw' => l21ConsistentN_spec (by first | rfl | (simp; done) | (simp; omega)) ((Rd.row (i := 0) rfl) w' hw') (by assumption) (by omega) (by omega))) ?_
          refine QOps.st rfl rfl (Yv.not rfl).yl ?_
          exact QOps.nil rfl
        refine QOps.nil ?_
        refine Run.cond rfl (fun hc3 => ?_) (fun hc3 => ?_)
        · try replace hc3 := of_decide_eq_true hc3
          have hn : addOk fs f pace = false := by unfold addOk; rw [hL]; revert hc3; cases areFixes (fs.drop 1 ++ [f]) <;> cases consistent _ pace <;> simp
          refine Run.seq ?_
          refine Run.ops ?_
          refine SOps.one rfl (One.buildSliceG (pv := []) (cs := []) (fun _ => []) rfl el25 .nil rfl rfl (by kernel_rfl) rfl rfl (fun b5 => ?_))
          refine SOps.st rfl rfl (Yv.assign rfl).yl ?_
          refine SOps.st rfl rfl (Yv.assign rfl).yl ?_
          refine SOps.nil ?_
          refine Run.ret ?_
          refine retQ.of (.inr rfl) rfl (.tmp rfl (.tmp rfl .nil)) (fun w' hw' => ?_)
          have hR : addR fs f pace = [] := by unfold addR; rw [if_neg (by rw [hn]; simp)]
          rw [hR, hn]
          first | exact ⟨_, _, rfl, hw'.bel.below, hw'.ent _ (List.mem_of_getElem? (i := 0) rfl), fun g hg => (hw'.own _ (List.mem_of_getElem? (i := 0) rfl) g hg).elim id (by simp)⟩ | exact ⟨_, _, rfl, hw'.bel.below, hw'.ent _ (List.mem_of_getElem? (i := 1) rfl), fun g hg => (hw'.own _ (List.mem_of_getElem? (i := 1) rfl) g hg).elim id (by simp)⟩ | exact ⟨_, _, rfl, hw'.bel.below, hw'.ent _ (List.mem_of_getElem? (i := 2) rfl), fun g hg => (hw'.own _ (List.mem_of_getElem? (i := 2) rfl) g hg).elim id (by simp)⟩ | exact ⟨_, _, rfl, hw'.bel.below, hw'.ent _ (List.mem_of_getElem? (i := 3) rfl), fun g hg => (hw'.own _ (List.mem_of_getElem? (i := 3) rfl) g hg).elim id (by simp)⟩ | exact ⟨_, _, rfl, hw'.bel.below, hw'.ent _ (List.mem_of_getElem? (i := 4) rfl), fun g hg => (hw'.own _ (List.mem_of_getElem? (i := 4) rfl) g hg).elim id (by simp)⟩
        · try replace hc3 := of_decide_eq_false hc3
          have hyes : addOk fs f pace = true := by unfold addOk; rw [hL, hy.1, hy.2]; revert hc3; cases areFixes (fs.drop 1 ++ [f]) <;> cases consistent _ pace <;> simp
          refine Run.skip ?_
          refine Run.seq ?_
          refine Run.quiet (by intro h; cases h) ?_
          refine QOps.st rfl rfl (Yv.move rfl).yl ?_
          refine QOps.st rfl rfl (Yv.assign rfl).yl ?_
          refine QOps.st rfl rfl (Yv.assign rfl).yl ?_
          refine QOps.nil ?_
          refine Run.ret ?_
          refine retQ.of (.inr rfl) rfl (.tmp rfl (.tmp rfl .nil)) (fun w' hw' => ?_)
          have hR : addR fs f pace = fs.drop 1 ++ [f] := by unfold addR; rw [if_pos hyes, hL]
          rw [hR, hyes, show (fs.drop 1 ++ [f]).length = fs.length - 1 + 1 by simp]
          first | exact ⟨_, _, rfl, hw'.bel.below, hw'.ent _ (List.mem_of_getElem? (i := 0) rfl), fun g hg => (hw'.own _ (List.mem_of_getElem? (i := 0) rfl) g hg).elim id (by simp)⟩ | exact ⟨_, _, rfl, hw'.bel.below, hw'.ent _ (List.mem_of_getElem? (i := 1) rfl), fun g hg => (hw'.own _ (List.mem_of_getElem? (i := 1) rfl) g hg).elim id (by simp)⟩ | exact ⟨_, _, rfl, hw'.bel.below, hw'.ent _ (List.mem_of_getElem? (i := 2) rfl), fun g hg => (hw'.own _ (List.mem_of_getElem? (i := 2) rfl) g hg).elim id (by simp)⟩ | exact ⟨_, _, rfl, hw'.bel.below, hw'.ent _ (List.mem_of_getElem? (i := 3) rfl), fun g hg => (hw'.own _ (List.mem_of_getElem? (i := 3) rfl) g hg).elim id (by simp)⟩ | exact ⟨_, _, rfl, hw'.bel.below, hw'.ent _ (List.mem_of_getElem? (i := 4) rfl), fun g hg => (hw'.own _ (List.mem_of_getElem? (i := 4) rfl) g hg).elim id (by simp)⟩
    · try replace hc2 := of_decide_eq_false hc2
      have hk : addK fs = 0 := by unfold addK; rw [if_neg (by omega)]
      have hL : addL fs f = fs.drop 0 ++ [f] := by unfold addL; rw [hk]
      refine Run.skip ?_
      refine Run.seq ?_
      refine Run.draws (fun H => H) (m := 9) (listed := #[false, false, false, false, false, false, false, false, false]) (by kernel_rfl) rfl rfl ?_
      refine DOps.take (listed' := #[false, true, false, false, false, false, false, false, false]) 1 rfl (by kernel_rfl) rfl (List.Sublist.refl _) rfl rfl (Yv.move rfl) ?_
      refine DOps.take (listed' := #[false, true, true, false, false, false, false, false, false]) 2 rfl (by kernel_rfl) rfl (List.Sublist.refl _) rfl rfl (Yv.move rfl) ?_
      refine DOps.take (listed' := #[false, true, true, true, false, false, false, false, false]) 3 rfl (by kernel_rfl) rfl (List.Sublist.refl _) rfl rfl (Yv.cutFrom 0 el25 rfl rfl rfl (by omega)) ?_
      refine DOps.take (listed' := #[false, true, true, true, false, true, false, false, false]) 5 rfl (by kernel_rfl) rfl (List.Sublist.refl _) rfl rfl (Yv.loadBs (i := 0) lay49 rfl rfl rfl rfl) ?_
      refine DOps.fork2 (l1 := #[true, true, true, true, false, true, false, false, false]) (l2 := #[false, true, true, true, false, true, true, false, false]) 0 6 rfl rfl (by kernel_rfl) rfl rfl rfl rfl ?_ ?_
      ·
        refine One.buildSliceG (pv := []) (cs := []) (fun _ => []) rfl el25 .nil rfl rfl (by kernel_rfl) rfl rfl (fun b6 => ?_)
        refine ⟨(List.Sublist.cons _ (List.Sublist.refl _)), ?_⟩
        refine DOps.fork2 (l1 := #[true, true, true, true, true, true, false, false, false]) (l2 := #[true, true, true, true, false, true, true, false, false]) 4 6 rfl rfl (by kernel_rfl) rfl rfl rfl rfl ?_ ?_
        ·
          refine One.append (enc := Fix.enc) (l := ([] : List Fix)) (l2 := (fs.drop 0)) (m' := (fs.length - 0)) (i := 0) (H' := fun A c => [_, _]) rfl el25 zero49 rfl (by decide) rfl rfl rfl (Rd.cutF Fix.len (Rd.arg hs) rfl (by omega)) (fun _ => rfl) (by simp) (by omega) (by omega) (fun _ _ => rfl) (fun A3 c3 => ?_)
          refine ⟨(List.Sublist.cons _ (List.Sublist.refl _)), ?_⟩
          refine DOps.only (listed' := #[true, true, true, true, true, true, true, false, false]) 6 rfl (by kernel_rfl) rfl rfl ?_
          refine One.buildSliceG (pv := [(0, _)]) (cs := [_, _, _]) (fun l => match l with | [.agg ⟨[a0_0, a0_1, a0_2]⟩] => [a0_0, a0_1, a0_2] | _ => []) rfl el25 (.cons rfl (.nil)) rfl rfl (by kernel_rfl) rfl rfl (fun b7 => ?_)
          refine ⟨(List.Sublist.cons _ (List.Sublist.cons _ (List.Sublist.refl _))), ?_⟩
          refine DOps.only (listed' := #[true, true, true, true, true, true, true, true, false]) 7 rfl (by kernel_rfl) rfl rfl ?_
          refine One.append (enc := Fix.enc) (l := (fs.drop 0)) (l2 := [f]) (m' := (fs.length - 0 + 1)) (i := 1) (H' := fun A c => [_, _, _]) rfl el25 zero49 rfl (by decide) rfl rfl rfl (Rd.row (i := 0) rfl) (fun _ => rfl) rfl (by omega) (by omega) (fun _ _ => rfl) (fun A4 c4 => ?_)
          refine ⟨(List.Sublist.cons _ (List.Sublist.cons _ (List.Sublist.refl _))), ?_⟩
          refine DOps.take (listed' := #[true, true, true, true, true, true, true, true, true]) 8 rfl (by kernel_rfl) rfl (List.Sublist.cons _ (List.Sublist.cons _ (List.Sublist.refl _))) rfl rfl (Yv.assign rfl) ?_
          refine DOps.done (by kernel_rfl) ?_
          refine Run.seq ?_
          refine Run.seq ?_
          refine Run.quiet (by intro h; cases h) ?_
          refine QOps.st rfl rfl (Yv.move rfl).yl ?_
          refine QOps.st rfl rfl (Yl.call callable51 (.cons rfl (.nil)) (fun w' hw' => l21GoodN_spec (by first | rfl | (simp; done) | (simp; omega)) ((Rd.row (i := 1) rfl) w' hw'))) ?_
          refine QOps.st rfl rfl (Yv.not rfl).yl ?_
          refine QOps.st rfl rfl (Yv.move rfl).yl ?_
          refine' QOps.or [_, _, _, _] _ (.tmp 37) rfl rfl rfl rfl rfl rfl (fun hg3 => ?_) ?_
          rotate_left
          · try replace hg3 := of_decide_eq_false hg3
            have hok9 := areFixes_all (not_f hg3)
            refine QOps.st rfl rfl (Yv.move rfl).yl ?_
            refine QOps.st rfl rfl (Yv.move rfl).yl ?_
            refine QOps.st rfl rfl (Yl.call callable56 (.cons rfl (.cons rfl (.nil))) (fun w' hw' => l21ConsistentN_spec (by first | rfl | (simp; done) | (simp; omega)) ((Rd.row (i := 1) rfl) w' hw') (by assumption) (by omega) (by omega))) ?_
            refine QOps.st rfl rfl (Yv.not rfl).yl ?_
            exact QOps.nil rfl
          refine QOps.nil ?_
          refine Run.cond rfl (fun hc4 => ?_) (fun hc4 => ?_)
          · try replace hc4 := of_decide_eq_true hc4
            have hn : addOk fs f pace = false := by unfold addOk; rw [hL]; revert hc4; cases areFixes (fs.drop 0 ++ [f]) <;> cases consistent _ pace <;> simp
            refine Run.seq ?_
            refine Run.ops ?_
            refine SOps.one rfl (One.buildSliceG (pv := []) (cs := []) (fun _ => []) rfl el25 .nil rfl rfl (by kernel_rfl) rfl rfl (fun b8 => ?_))
            refine SOps.st rfl rfl (Yv.assign rfl).yl ?_
            refine SOps.st rfl rfl (Yv.assign rfl).yl ?_
            refine SOps.nil ?_
            refine Run.ret ?_
            refine retQ.of (.inr rfl) rfl (.tmp rfl (.tmp rfl .nil)) (fun w' hw' => ?_)
            have hR : addR fs f pace = [] := by unfold addR; rw [if_neg (by rw [hn]; simp)]
            rw [hR, hn]
            first | exact ⟨_, _, rfl, hw'.bel.below, hw'.ent _ (List.mem_of_getElem? (i := 0) rfl), fun g hg => (hw'.own _ (List.mem_of_getElem? (i := 0) rfl) g hg).elim id (by simp)⟩ | exact ⟨_, _, rfl, hw'.bel.below, hw'.ent _ (List.mem_of_getElem? (i := 1) rfl), fun g hg => (hw'.own _ (List.mem_of_getElem? (i := 1) rfl) g hg).elim id (by simp)⟩ | exact ⟨_, _, rfl, hw'.bel.below, hw'.ent _ (List.mem_of_getElem? (i := 2) rfl), fun g hg => (hw'.own _ (List.mem_of_getElem? (i := 2) rfl) g hg).elim id (by simp)⟩ | exact ⟨_, _, rfl, hw'.bel.below, hw'.ent _ (List.mem_of_getElem? (i := 3) rfl), fun g hg => (hw'.own _ (List.mem_of_getElem? (i := 3) rfl) g hg).elim id (by simp)⟩ | exact ⟨_, _, rfl, hw'.bel.below, hw'.ent _ (List.mem_of_getElem? (i := 4) rfl), fun g hg => (hw'.own _ (List.mem_of_getElem? (i := 4) rfl) g hg).elim id (by simp)⟩
          · try replace hc4 := of_decide_eq_false hc4
            have hyes : addOk fs f pace = true := by unfold addOk; rw [hL, hy.1, hy.2]; revert hc4; cases areFixes (fs.drop 0 ++ [f]) <;> cases consistent _ pace <;> simp
            refine Run.skip ?_
            refine Run.seq ?_
            refine Run.quiet (by intro h; cases h) ?_
            refine QOps.st rfl rfl (Yv.move rfl).yl ?_
            refine QOps.st rfl rfl (Yv.assign rfl).yl ?_
            refine QOps.st rfl rfl (Yv.assign rfl).yl ?_
            refine QOps.nil ?_
            refine Run.ret ?_
            refine retQ.of (.inr rfl) rfl (.tmp rfl (.tmp rfl .nil)) (fun w' hw' => ?_)
            have hR : addR fs f pace = fs.drop 0 ++ [f] := by unfold addR; rw [if_pos hyes, hL]
            rw [hR, hyes, show (fs.drop 0 ++ [f]).length = fs.length - 0 + 1 by simp]
            first | exact ⟨_, _, rfl, hw'.bel.below, hw'.ent _ (List.mem_of_getElem? (i := 0) rfl), fun g hg => (hw'.own _ (List.mem_of_getElem? (i := 0) rfl) g hg).elim id (by simp)⟩ | exact ⟨_, _, rfl, hw'.bel.below, hw'.ent _ (List.mem_of_getElem? (i := 1) rfl), fun g hg => (hw'.own _ (List.mem_of_getElem? (i := 1) rfl) g hg).elim id (by simp)⟩ | exact ⟨_, _, rfl, hw'.bel.below, hw'.ent _ (List.mem_of_getElem? (i := 2) rfl), fun g hg => (hw'.own _ (List.mem_of_getElem? (i := 2) rfl) g hg).elim id (by simp)⟩ | exact ⟨_, _, rfl, hw'.bel.below, hw'.ent _ (List.mem_of_getElem? (i := 3) rfl), fun g hg => (hw'.own _ (List.mem_of_getElem? (i := 3) rfl) g hg).elim id (by simp)⟩ | exact ⟨_, _, rfl, hw'.bel.below, hw'.ent _ (List.mem_of_getElem? (i := 4) rfl), fun g hg => (hw'.own _ (List.mem_of_getElem? (i := 4) rfl) g hg).elim id (by simp)⟩
        ·
          refine One.buildSliceG (pv := [(0, _)]) (cs := [_, _, _]) (fun l => match l with | [.agg ⟨[a0_0, a0_1, a0_2]⟩] => [a0_0, a0_1, a0_2] | _ => []) rfl el25 (.cons rfl (.nil)) rfl rfl (by kernel_rfl) rfl rfl (fun b7 => ?_)
          refine ⟨(List.Sublist.cons _ (List.Sublist.cons _ (List.Sublist.refl _))), ?_⟩
          refine DOps.only (listed' := #[true, true, true, true, true, true, true, false, false]) 4 rfl (by kernel_rfl) rfl rfl ?_
          refine One.append (enc := Fix.enc) (l := ([] : List Fix)) (l2 := (fs.drop 0)) (m' := (fs.length - 0)) (i := 1) (H' := fun A c => [_, _, _]) rfl el25 zero49 rfl (by decide) rfl rfl rfl (Rd.cutF Fix.len (Rd.arg hs) rfl (by omega)) (fun _ => rfl) (by simp) (by omega) (by omega) (fun _ _ => rfl) (fun A3 c3 => ?_)
          refine ⟨(List.Sublist.cons _ (List.Sublist.cons _ (List.Sublist.refl _))), ?_⟩
          refine DOps.only (listed' := #[true, true, true, true, true, true, true, true, false]) 7 rfl (by kernel_rfl) rfl rfl ?_
          refine One.append (enc := Fix.enc) (l := (fs.drop 0)) (l2 := [f]) (m' := (fs.length - 0 + 1)) (i := 1) (H' := fun A c => [_, _, _]) rfl el25 zero49 rfl (by decide) rfl rfl rfl (Rd.row (i := 0) rfl) (fun _ => rfl) rfl (by omega) (by omega) (fun _ _ => rfl) (fun A4 c4 => ?_)
          refine ⟨(List.Sublist.cons _ (List.Sublist.cons _ (List.Sublist.refl _))), ?_⟩
          refine DOps.take (listed' := #[true, true, true, true, true, true, true, true, true]) 8 rfl (by kernel_rfl) rfl (List.Sublist.cons _ (List.Sublist.cons _ (List.Sublist.refl _))) rfl rfl (Yv.assign rfl) ?_
          refine DOps.done (by kernel_rfl) ?_
          refine Run.seq ?_
          refine Run.seq ?_
          refine Run.quiet (by intro h; cases h) ?_
          refine QOps.st rfl rfl (Yv.move rfl).yl ?_
          refine QOps.st rfl rfl (Yl.call callable51 (.cons rfl (.nil)) (fun w' hw' => l21GoodN_spec (by first | rfl | (simp; done) | (simp; omega)) ((Rd.row (i := 1) rfl) w' hw'))) ?_
          refine QOps.st rfl rfl (Yv.not rfl).yl ?_
          refine QOps.st rfl rfl (Yv.move rfl).yl ?_
          refine' QOps.or [_, _, _, _] _ (.tmp 37) rfl rfl rfl rfl rfl rfl (fun hg3 => ?_) ?_
          rotate_left
          · try replace hg3 := of_decide_eq_false hg3
            have hok9 := areFixes_all (not_f hg3)
            refine QOps.st rfl rfl (Yv.move rfl).yl ?_
            refine QOps.st rfl rfl (Yv.move rfl).yl ?_
            refine QOps.st rfl rfl (Yl.call callable56 (.cons rfl (.cons rfl (.nil))) (fun w' hw' => l21ConsistentN_spec (by first | rfl | (simp; done) | (simp; omega)) ((Rd.row (i := 1) rfl) w' hw') (by assumption) (by omega) (by omega))) ?_
            refine QOps.st rfl rfl (Yv.not rfl).yl ?_
            exact QOps.nil rfl
          refine QOps.nil ?_
          refine Run.cond rfl (fun hc4 => ?_) (fun hc4 => ?_)
          · try replace hc4 := of_decide_eq_true hc4
            have hn : addOk fs f pace = false := by unfold addOk; rw [hL]; revert hc4; cases areFixes (fs.drop 0 ++ [f]) <;> cases consistent _ pace <;> simp
            refine Run.seq ?_
            refine Run.ops ?_
            refine SOps.one rfl (One.buildSliceG (pv := []) (cs := []) (fun _ => []) rfl el25 .nil rfl rfl (by kernel_rfl) rfl rfl (fun b8 => ?_))
            refine SOps.st rfl rfl (Yv.assign rfl).yl ?_
            refine SOps.st rfl rfl (Yv.assign rfl).yl ?_
            refine SOps.nil ?_
            refine Run.ret ?_
            refine retQ.of (.inr rfl) rfl (.tmp rfl (.tmp rfl .nil)) (fun w' hw' => ?_)
            have hR : addR fs f pace = [] := by unfold addR; rw [if_neg (by rw [hn]; simp)]
            rw [hR, hn]
            first | exact ⟨_, _, rfl, hw'.bel.below, hw'.ent _ (List.mem_of_getElem? (i := 0) rfl), fun g hg => (hw'.own _ (List.mem_of_getElem? (i := 0) rfl) g hg).elim id (by simp)⟩ | exact ⟨_, _, rfl, hw'.bel.below, hw'.ent _ (List.mem_of_getElem? (i := 1) rfl), fun g hg => (hw'.own _ (List.mem_of_getElem? (i := 1) rfl) g hg).elim id (by simp)⟩ | exact ⟨_, _, rfl, hw'.bel.below, hw'.ent _ (List.mem_of_getElem? (i := 2) rfl), fun g hg => (hw'.own _ (List.mem_of_getElem? (i := 2) rfl) g hg).elim id (by simp)⟩ | exact ⟨_, _, rfl, hw'.bel.below, hw'.ent _ (List.mem_of_getElem? (i := 3) rfl), fun g hg => (hw'.own _ (List.mem_of_getElem? (i := 3) rfl) g hg).elim id (by simp)⟩ | exact ⟨_, _, rfl, hw'.bel.below, hw'.ent _ (List.mem_of_getElem? (i := 4) rfl), fun g hg => (hw'.own _ (List.mem_of_getElem? (i := 4) rfl) g hg).elim id (by simp)⟩
          · try replace hc4 := of_decide_eq_false hc4
            have hyes : addOk fs f pace = true := by unfold addOk; rw [hL, hy.1, hy.2]; revert hc4; cases areFixes (fs.drop 0 ++ [f]) <;> cases consistent _ pace <;> simp
            refine Run.skip ?_
            refine Run.seq ?_
            refine Run.quiet (by intro h; cases h) ?_
            refine QOps.st rfl rfl (Yv.move rfl).yl ?_
            refine QOps.st rfl rfl (Yv.assign rfl).yl ?_
            refine QOps.st rfl rfl (Yv.assign rfl).yl ?_
            refine QOps.nil ?_
            refine Run.ret ?_
            refine retQ.of (.inr rfl) rfl (.tmp rfl (.tmp rfl .nil)) (fun w' hw' => ?_)
            have hR : addR fs f pace = fs.drop 0 ++ [f] := by unfold addR; rw [if_pos hyes, hL]
            rw [hR, hyes, show (fs.drop 0 ++ [f]).length = fs.length - 0 + 1 by simp]
            first | exact ⟨_, _, rfl, hw'.bel.below, hw'.ent _ (List.mem_of_getElem? (i := 0) rfl), fun g hg => (hw'.own _ (List.mem_of_getElem? (i := 0) rfl) g hg).elim id (by simp)⟩ | exact ⟨_, _, rfl, hw'.bel.below, hw'.ent _ (List.mem_of_getElem? (i := 1) rfl), fun g hg => (hw'.own _ (List.mem_of_getElem? (i := 1) rfl) g hg).elim id (by simp)⟩ | exact ⟨_, _, rfl, hw'.bel.below, hw'.ent _ (List.mem_of_getElem? (i := 2) rfl), fun g hg => (hw'.own _ (List.mem_of_getElem? (i := 2) rfl) g hg).elim id (by simp)⟩ | exact ⟨_, _, rfl, hw'.bel.below, hw'.ent _ (List.mem_of_getElem? (i := 3) rfl), fun g hg => (hw'.own _ (List.mem_of_getElem? (i := 3) rfl) g hg).elim id (by simp)⟩ | exact ⟨_, _, rfl, hw'.bel.below, hw'.ent _ (List.mem_of_getElem? (i := 4) rfl), fun g hg => (hw'.own _ (List.mem_of_getElem? (i := 4) rfl) g hg).elim id (by simp)⟩
      ·
        refine One.buildSliceG (pv := [(0, _)]) (cs := [_, _, _]) (fun l => match l with | [.agg ⟨[a0_0, a0_1, a0_2]⟩] => [a0_0, a0_1, a0_2] | _ => []) rfl el25 (.cons rfl (.nil)) rfl rfl (by kernel_rfl) rfl rfl (fun b6 => ?_)
        refine ⟨(List.Sublist.cons _ (List.Sublist.refl _)), ?_⟩
        refine DOps.only (listed' := #[true, true, true, true, false, true, true, false, false]) 0 rfl (by kernel_rfl) rfl rfl ?_
        refine One.buildSliceG (pv := []) (cs := []) (fun _ => []) rfl el25 .nil rfl rfl (by kernel_rfl) rfl rfl (fun b7 => ?_)
        refine ⟨(List.Sublist.cons _ (List.Sublist.cons _ (List.Sublist.refl _))), ?_⟩
        refine DOps.only (listed' := #[true, true, true, true, true, true, true, false, false]) 4 rfl (by kernel_rfl) rfl rfl ?_
        refine One.append (enc := Fix.enc) (l := ([] : List Fix)) (l2 := (fs.drop 0)) (m' := (fs.length - 0)) (i := 0) (H' := fun A c => [_, _, _]) rfl el25 zero49 rfl (by decide) rfl rfl rfl (Rd.cutF Fix.len (Rd.arg hs) rfl (by omega)) (fun _ => rfl) (by simp) (by omega) (by omega) (fun _ _ => rfl) (fun A3 c3 => ?_)
        refine ⟨(List.Sublist.cons _ (List.Sublist.cons _ (List.Sublist.refl _))), ?_⟩
        refine DOps.only (listed' := #[true, true, true, true, true, true, true, true, false]) 7 rfl (by kernel_rfl) rfl rfl ?_
        refine One.append (enc := Fix.enc) (l := (fs.drop 0)) (l2 := [f]) (m' := (fs.length - 0 + 1)) (i := 0) (H' := fun A c => [_, _, _]) rfl el25 zero49 rfl (by decide) rfl rfl rfl (Rd.row (i := 1) rfl) (fun _ => rfl) rfl (by omega) (by omega) (fun _ _ => rfl) (fun A4 c4 => ?_)
        refine ⟨(List.Sublist.cons _ (List.Sublist.cons _ (List.Sublist.refl _))), ?_⟩
        refine DOps.take (listed' := #[true, true, true, true, true, true, true, true, true]) 8 rfl (by kernel_rfl) rfl (List.Sublist.cons _ (List.Sublist.cons _ (List.Sublist.refl _))) rfl rfl (Yv.assign rfl) ?_
        refine DOps.done (by kernel_rfl) ?_
        refine Run.seq ?_
        refine Run.seq ?_
        refine Run.quiet (by intro h; cases h) ?_
        refine QOps.st rfl rfl (Yv.move rfl).yl ?_
        refine QOps.st rfl rfl (Yl.call callable51 (.cons rfl (.nil)) (fun w' hw' => l21GoodN_spec (by first | rfl | (simp; done) | (simp; omega)) ((Rd.row (i := 0) rfl) w' hw'))) ?_
        refine QOps.st rfl rfl (Yv.not rfl).yl ?_
        refine QOps.st rfl rfl (Yv.move rfl).yl ?_
        refine' QOps.or [_, _, _, _] _ (.tmp 37) rfl rfl rfl rfl rfl rfl (fun hg3 => ?_) ?_
        rotate_left
        · try replace hg3 := of_decide_eq_false hg3
          have hok9 := areFixes_all (not_f hg3)
          refine QOps.st rfl rfl (Yv.move rfl).yl ?_
          refine QOps.st rfl rfl (Yv.move rfl).yl ?_
          refine QOps.st rfl rfl (Yl.call callable56 (.cons rfl (.cons rfl (.nil))) (fun w' hw' => l21ConsistentN_spec (by first | rfl | (simp; done) | (simp; omega)) ((Rd.row (i := 0) rfl) w' hw') (by assumption) (by omega) (by omega))) ?_
          refine QOps.st rfl rfl (Yv.not rfl).yl ?_
          exact QOps.nil rfl
        refine QOps.nil ?_
        refine Run.cond rfl (fun hc4 => ?_) (fun hc4 => ?_)
        · try replace hc4 := of_decide_eq_true hc4
          have hn : addOk fs f pace = false := by unfold addOk; rw [hL]; revert hc4; cases areFixes (fs.drop 0 ++ [f]) <;> cases consistent _ pace <;> simp
          refine Run.seq ?_
          refine Run.ops ?_
          refine SOps.one rfl (One.buildSliceG (pv := []) (cs := []) (fun _ => []) rfl el25 .nil rfl rfl (by kernel_rfl) rfl rfl (fun b8 => ?_))
          refine SOps.st rfl rfl (Yv.assign rfl).yl ?_
          refine SOps.st rfl rfl (Yv.assign rfl).yl ?_
          refine SOps.nil ?_
          refine Run.ret ?_
          refine retQ.of (.inr rfl) rfl (.tmp rfl (.tmp rfl .nil)) (fun w' hw' => ?_)
          have hR : addR fs f pace = [] := by unfold addR; rw [if_neg (by rw [hn]; simp)]
          rw [hR, hn]
          first | exact ⟨_, _, rfl, hw'.bel.below, hw'.ent _ (List.mem_of_getElem? (i := 0) rfl), fun g hg => (hw'.own _ (List.mem_of_getElem? (i := 0) rfl) g hg).elim id (by simp)⟩ | exact ⟨_, _, rfl, hw'.bel.below, hw'.ent _ (List.mem_of_getElem? (i := 1) rfl), fun g hg => (hw'.own _ (List.mem_of_getElem? (i := 1) rfl) g hg).elim id (by simp)⟩ | exact ⟨_, _, rfl, hw'.bel.below, hw'.ent _ (List.mem_of_getElem? (i := 2) rfl), fun g hg => (hw'.own _ (List.mem_of_getElem? (i := 2) rfl) g hg).elim id (by simp)⟩ | exact ⟨_, _, rfl, hw'.bel.below, hw'.ent _ (List.mem_of_getElem? (i := 3) rfl), fun g hg => (hw'.own _ (List.mem_of_getElem? (i := 3) rfl) g hg).elim id (by simp)⟩ | exact ⟨_, _, rfl, hw'.bel.below, hw'.ent _ (List.mem_of_getElem? (i := 4) rfl), fun g hg => (hw'.own _ (List.mem_of_getElem? (i := 4) rfl) g hg).elim id (by simp)⟩
        · try replace hc4 := of_decide_eq_false hc4
          have hyes : addOk fs f pace = true := by unfold addOk; rw [hL, hy.1, hy.2]; revert hc4; cases areFixes (fs.drop 0 ++ [f]) <;> cases consistent _ pace <;> simp
          refine Run.skip ?_
          refine Run.seq ?_
          refine Run.quiet (by intro h; cases h) ?_
          refine QOps.st rfl rfl (Yv.move rfl).yl ?_
          refine QOps.st rfl rfl (Yv.assign rfl).yl ?_
          refine QOps.st rfl rfl (Yv.assign rfl).yl ?_
          refine QOps.nil ?_
          refine Run.ret ?_
          refine retQ.of (.inr rfl) rfl (.tmp rfl (.tmp rfl .nil)) (fun w' hw' => ?_)
          have hR : addR fs f pace = fs.drop 0 ++ [f] := by unfold addR; rw [if_pos hyes, hL]
          rw [hR, hyes, show (fs.drop 0 ++ [f]).length = fs.length - 0 + 1 by simp]
          first | exact ⟨_, _, rfl, hw'.bel.below, hw'.ent _ (List.mem_of_getElem? (i := 0) rfl), fun g hg => (hw'.own _ (List.mem_of_getElem? (i := 0) rfl) g hg).elim id (by simp)⟩ | exact ⟨_, _, rfl, hw'.bel.below, hw'.ent _ (List.mem_of_getElem? (i := 1) rfl), fun g hg => (hw'.own _ (List.mem_of_getElem? (i := 1) rfl) g hg).elim id (by simp)⟩ | exact ⟨_, _, rfl, hw'.bel.below, hw'.ent _ (List.mem_of_getElem? (i := 2) rfl), fun g hg => (hw'.own _ (List.mem_of_getElem? (i := 2) rfl) g hg).elim id (by simp)⟩ | exact ⟨_, _, rfl, hw'.bel.below, hw'.ent _ (List.mem_of_getElem? (i := 3) rfl), fun g hg => (hw'.own _ (List.mem_of_getElem? (i := 3) rfl) g hg).elim id (by simp)⟩ | exact ⟨_, _, rfl, hw'.bel.below, hw'.ent _ (List.mem_of_getElem? (i := 4) rfl), fun g hg => (hw'.own _ (List.mem_of_getElem? (i := 4) rfl) g hg).elim id (by simp)⟩
end Go.Proofs.Ytliealfihglkmaa
