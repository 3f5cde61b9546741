/- Fixes: one more fix, the law. Conditions: none. -/
import Derived.Test.YtliealfihglkmaaPos9
namespace Go.Proofs.Ytliealfihglkmaa
open Go.RowKit
set_option maxRecDepth 100000
theorem adr_cut {A : Option Addr} {c k sz q : Nat} (hA : A.isSome = true) (hc : k < c) : (adr (cutA A c k sz)).add (q * sz) = (adr A).add ((k + q) * sz) := by
  cases A with
  | none => cases hA
  | some a =>
    unfold cutA
    rw [if_neg (by omega), Nat.add_mul]
    exact add_add' a _ _
theorem take_marks {l o : List Fix} {k m : Nat} {j0 : Int} (hlm : l.length = m) (hol : o.length = m) (hk : k ≤ m) (h1 : ∀ i, i < k → nth o i = nth l i) (h2 : ∀ i, i < m - k → nth o (k + i) = Fix.mark j0 i) : o = l.take k ++ Fix.marks (m - k) j0 := by
  have ht : (l.take k).length = k := by simp; omega
  refine eq_of_nth (by rw [List.length_append, ht, Fix.marks_len, hol]; omega) (fun i hi => ?_)
  rw [List.length_append, ht, Fix.marks_len] at hi
  rcases Nat.lt_or_ge i k with h3 | h3
  · rw [nth_l (by omega), h1 i h3]
    simp [nth, List.getElem?_take, h3]
  · obtain ⟨q, rfl⟩ : ∃ q, i = k + q := ⟨i - k, by omega⟩
    rw [h2 q (by omega)]
    have h4 := nth_r (l := l.take k) (m := Fix.marks (m - k) j0) (i := q)
    rw [ht] at h4
    rw [h4, Fix.marks_nth (by omega)]
theorem markFixSub_spec {w : World} {A : Option Addr} {c T k m : Nat} {l : List Fix} {j0 : Int} (hrow : (HEnt.row A c T 3 m (l.flatMap Fix.enc)).ok w) (hlm : l.length = m) (hk : k ≤ m) (hl : m ≤ 1048576) (h1 : 0 ≤ j0) (h2 : j0 ≤ 4611686018427387904) :
    Calls Try.prog 35 #[.slice (cutA A c k 3) (m - k) (c - k), .int .i64 j0] w (RetMut w A c T 3 m ((l.take k ++ Fix.marks (m - k) j0).flatMap Fix.enc) (.int .i64 (j0 + 3 * ((m - k : Nat) : Int)))) := by
  have hsl := sl_of_row hrow
  have hmc := hsl.cap
  have hAs : 0 < m → A.isSome = true := fun h => (hsl.at_ h).1
  refine calls_of_run (vs := [_, _]) (L := [(0, _), (1, _)]) (n := 34) (F := (A.map (·.block)).toList) (H := [_]) Try.func35 rfl rfl rfl rfl (HOk.borrowRow hrow) ?_
  refine Run.seq ?_
  refine Run.quiet (by intro h; cases h) ?_
  refine QOps.st rfl rfl (Yv.assign rfl).yl ?_
  refine QOps.nil ?_
  refine Run.seq ?_
  refine Run.seq ?_
  refine Run.quiet (by intro h; cases h) ?_
  refine QOps.st rfl rfl (Yv.assign rfl).yl ?_
  refine QOps.nil ?_
  refine Run.block ?_
  refine Run.loop (S := Nat × Int × List Fix) (fun s => match s with | (q, j, o) => q ≤ m - k ∧ o.length = m ∧ j = j0 + 3 * (q : Int) ∧ (∀ i, i < k → nth o i = nth l i) ∧ ∀ i, i < q → nth o (k + i) = Fix.mark j0 i) (fun s => match s with | (q, j, o) => [(0, .slice (cutA A c k 3) (m - k) (c - k)), (1, .int .i64 j), (5, .int .i64 (q : Int))]) (fun s => match s with | (q, j, o) => [.row A c T 3 m (o.flatMap Fix.enc)]) (fun s => match s with | (q, j, o) => (m - k) - q) (0, j0, l) ?_ (SubE.cons rfl (SubE.cons rfl (SubE.cons rfl (SubE.nil _)))) (List.Sublist.refl _) ?_
  · exact ⟨by omega, hlm, by simp, fun i hi => rfl, fun i hi => by omega⟩
  · rintro ⟨q, j, o⟩ ⟨hq, hol, hj, hlo, heq⟩
    show Run _ _ _ _ _ [(0, .slice (cutA A c k 3) (m - k) (c - k)), (1, .int .i64 j), (5, .int .i64 (q : Int))] [.row A c T 3 m (o.flatMap Fix.enc)] _
    refine Run.seq ?_
    refine Run.seq ?_
    refine Run.quiet (by intro h; cases h) ?_
    refine QOps.st rfl rfl (Yv.move rfl).yl ?_
    refine QOps.st rfl rfl (Yv.move rfl).yl ?_
    refine QOps.st rfl rfl (Yv.lenS el25s rfl).yl ?_
    refine QOps.st rfl rfl (Yv.lss rfl rfl).yl ?_
    refine QOps.nil ?_
    refine Run.cond rfl (fun hc1 => ?_) (fun hc1 => ?_)
    · try replace hc1 := of_decide_eq_true hc1
      refine Run.skip ?_
      refine Run.seq ?_
      refine Run.block ?_
      refine Run.seq ?_
      refine Run.ops ?_
      refine SOps.st rfl rfl (Yv.move rfl).yl ?_
      refine SOps.st rfl rfl (Yv.move rfl).yl ?_
      refine SOps.st rfl rfl (Yv.move rfl).yl ?_
      refine SOps.st rfl rfl (Yv.indexAddr q el25 rfl rfl rfl (Rd.cutF Fix.len (Rd.row (i := 0) rfl) (by first | exact hol | simpa using hol) hk) (by omega)).yl ?_
      refine SOps.st rfl rfl (Yv.fieldAddr fld49_0 rfl).yl ?_
      refine SOps.one rfl (One.storeE (i := 0) (k := (k + q)) (f := 0) (H' := [_]) (e := ⟨j, (nth o (k + q)).place, (nth o (k + q)).error⟩) lay3 rfl (by exact congrArg (fun a => Addr.add a _) (adr_cut (hAs (by omega)) (by omega))) rfl Fix.len rfl (by decide) rfl rfl rfl (by first | omega | (simp; omega)) (by first | omega | (simp; omega)) rfl ?_)
      refine SOps.nil ?_
      refine Run.seq ?_
      refine Run.quiet (by intro h; cases h) ?_
      refine QOps.st rfl rfl (Yv.move rfl).yl ?_
      refine QOps.st rfl rfl (Yv.add rfl rfl (by omega)).yl ?_
      refine QOps.st rfl rfl (Yv.assign rfl).yl ?_
      refine QOps.nil ?_
      refine Run.seq ?_
      refine Run.ops ?_
      refine SOps.st rfl rfl (Yv.move rfl).yl ?_
      refine SOps.st rfl rfl (Yv.move rfl).yl ?_
      refine SOps.st rfl rfl (Yv.move rfl).yl ?_
      refine SOps.st rfl rfl (Yv.indexAddr q el25 rfl rfl rfl (Rd.cutF Fix.len (Rd.row (i := 0) rfl) (by first | exact hol | simpa using hol) hk) (by omega)).yl ?_
      refine SOps.st rfl rfl (Yv.fieldAddr fld49_1 rfl).yl ?_
      refine SOps.one rfl (One.storeE (i := 0) (k := (k + q)) (f := 1) (H' := [_]) (e := ⟨j, j + 1, (nth o (k + q)).error⟩) lay3 rfl (by exact congrArg (fun a => Addr.add a _) (adr_cut (hAs (by omega)) (by omega))) rfl Fix.len rfl (by decide) (by rw [nth_set_self (by first | omega | (simp; omega))]; rfl) rfl rfl (by first | omega | (simp; omega)) (by first | omega | (simp; omega)) rfl ?_)
      refine SOps.nil ?_
      refine Run.seq ?_
      refine Run.quiet (by intro h; cases h) ?_
      refine QOps.st rfl rfl (Yv.move rfl).yl ?_
      refine QOps.st rfl rfl (Yv.add rfl rfl (by omega)).yl ?_
      refine QOps.st rfl rfl (Yv.assign rfl).yl ?_
      refine QOps.nil ?_
      refine Run.seq ?_
      refine Run.ops ?_
      refine SOps.st rfl rfl (Yv.move rfl).yl ?_
      refine SOps.st rfl rfl (Yv.move rfl).yl ?_
      refine SOps.st rfl rfl (Yv.move rfl).yl ?_
      refine SOps.st rfl rfl (Yv.indexAddr q el25 rfl rfl rfl (Rd.cutF Fix.len (Rd.row (i := 0) rfl) (by first | exact hol | simpa using hol) hk) (by omega)).yl ?_
      refine SOps.st rfl rfl (Yv.fieldAddr fld49_2 rfl).yl ?_
      refine SOps.one rfl (One.storeE (i := 0) (k := (k + q)) (f := 2) (H' := [_]) (e := ⟨j, j + 1, j + 1 + 1⟩) lay3 rfl (by exact congrArg (fun a => Addr.add a _) (adr_cut (hAs (by omega)) (by omega))) rfl Fix.len rfl (by decide) (by rw [nth_set_self (by first | omega | (simp; omega))]; rfl) rfl rfl (by first | omega | (simp; omega)) (by first | omega | (simp; omega)) rfl ?_)
      refine SOps.nil ?_
      refine Run.quiet (by intro h; cases h) ?_
      refine QOps.st rfl rfl (Yv.move rfl).yl ?_
      refine QOps.st rfl rfl (Yv.add rfl rfl (by omega)).yl ?_
      refine QOps.st rfl rfl (Yv.assign rfl).yl ?_
      refine QOps.nil ?_
      refine Run.quiet (by intro h; cases h) ?_
      refine QOps.st rfl rfl (Yv.move rfl).yl ?_
      refine QOps.st rfl rfl (Yv.succN rfl rfl (by omega)).yl ?_
      refine QOps.st rfl rfl (Yv.assign rfl).yl ?_
      refine QOps.nil ?_
      refine ⟨(q + 1, _, _), ?_, ?_, (SubE.cons rfl (SubE.cons rfl (SubE.cons rfl (SubE.nil _)))), (List.Sublist.refl _)⟩
      · exact ⟨by omega, by simpa using hol, by omega, fun i hi => by simp only [List.set_set]; rw [nth_set_ne (by omega)]; exact hlo i hi, all_succ (fun i hi => by simp only [List.set_set]; rw [nth_set_ne (by omega)]; exact heq i hi) (by simp only [List.set_set]; rw [nth_set_self (by omega), hj]; simp [Fix.mark]; omega)⟩
      · first | omega | (dsimp only; omega)
    · try replace hc1 := of_decide_eq_false hc1
      refine Run.exit ?_
      refine Run.seq ?_
      refine Run.quiet (by intro h; cases h) ?_
      refine QOps.st rfl rfl (Yv.move rfl).yl ?_
      refine QOps.st rfl rfl (Yv.assign rfl).yl ?_
      refine QOps.nil ?_
      refine Run.ret ?_
      obtain rfl : q = m - k := by omega
      have hoe : o = l.take k ++ Fix.marks (m - k) j0 := take_marks hlm hol hk hlo heq
      subst hoe
      refine retQ.of (.inr rfl) rfl (.tmp rfl .nil) (fun w' hw' => ?_)
      exact ⟨by rw [hj]; rfl, hw'.bel, hw'.ent _ (List.mem_of_getElem? (i := 0) rfl)⟩
theorem addM_nine {fs : List Fix} {f : Fix} {pace : Int} : (addM fs f pace).length ≤ 9 := by
  unfold addM
  split
  · rename_i h
    simp only [addOk, Bool.and_eq_true] at h
    have := areFixes_ok h.1.1.1
    rw [List.length_append]
    show fs.length + 1 ≤ 9
    omega
  · simp
theorem eqFixAdd_spec {w : World} {A A2 : Option Addr} {c c2 : Nat} {fs : List Fix} {f : Fix} {p : Int} (hs : Sl w 3 A ((addM fs f p).length - addK2 fs f p) c (((addM fs f p).drop (addK2 fs f p)).flatMap Fix.enc)) (hs2 : Sl w 3 A2 (addR fs f p).length c2 ((addR fs f p).flatMap Fix.enc)) :
    Calls Try.prog 18 #[.slice A ((addM fs f p).length - addK2 fs f p) c, .slice A2 (addR fs f p).length c2] w (RetB w (.bool true)) := by
  rw [add_eq, ← add_len] at hs
  rw [← add_len]
  exact eqFixS_spec hs hs2
theorem heldSub_spec {w : World} {A : Option Addr} {c n k : Nat} {M : List Fix} {j0 : Int} (hs : Sl w 3 A n c (((M.take k ++ Fix.marks n j0).drop k).flatMap Fix.enc)) (hk : k ≤ M.length) (hl : n ≤ 1048576) (h1 : 0 ≤ j0) (h2 : j0 ≤ 4611686018427387904) :
    Calls Try.prog 36 #[.slice A n c, .int .i64 j0] w (RetB w (.int .i64 (j0 + 3 * (n : Int)))) := by
  rw [List.drop_left' (by simp; omega)] at hs
  exact heldFixS_spec hs hl h1 h2
theorem FnExactAddFix_spec {w : World} {A : Option Addr} {c : Nat} {fs : List Fix} {f : Fix} {pace : Int} (hs : Sl w 3 A fs.length c (fs.flatMap Fix.enc)) (hb : 24 * fs.length ≤ 281474976710656) :
    Calls Try.prog 10 #[.slice A fs.length c, .agg f.enc.toArray, .int .i64 pace] w (RetB w (.bool true)) := by
  have hMl := addM_nine (fs := fs) (f := f) (pace := pace)
  have hRl := add_len (fs := fs) (f := f) (pace := pace)
  refine calls_of_run (vs := [_, _, _]) (L := [(0, _), (1, _), (2, _)]) (n := 109) (F := []) (H := []) Try.func10 rfl rfl rfl rfl (HOk.start _) ?_
  refine Run.seq ?_
  refine Run.ops ?_
  refine SOps.one rfl (One.box (cs := [_, _, _]) rfl rfl rfl (fun b1 => ?_))
  refine SOps.st rfl rfl (Yv.assign rfl).yl ?_
  refine SOps.nil ?_
  refine Run.seq ?_
  refine Run.quiet (by intro h; cases h) ?_
  refine QOps.st rfl rfl (Yv.assign rfl).yl ?_
  refine QOps.nil ?_
  refine Run.seq ?_
  refine Run.quiet (by intro h; cases h) ?_
  refine QOps.st rfl rfl (Yv.move rfl).yl ?_
  refine QOps.st rfl rfl (Yv.move rfl).yl ?_
  refine QOps.st rfl rfl (Yl.call callable14 (.cons rfl (.cons rfl (.nil))) (fun w' hw' => szFixS_spec (by omega) (by omega) (by omega))) ?_
  refine QOps.st rfl rfl (Yv.assign rfl).yl ?_
  refine QOps.nil ?_
  refine Run.seq ?_
  refine Run.seq ?_
  refine Run.quiet (by intro h; cases h) ?_
  refine QOps.st rfl rfl (Yv.move rfl).yl ?_
  refine QOps.st rfl rfl (Yv.lss rfl rfl).yl ?_
  refine QOps.nil ?_
  refine Run.cond rfl (fun hc1 => ?_) (fun hc1 => ?_)
  · try replace hc1 := of_decide_eq_true hc1
    refine Run.seq ?_
    refine Run.quiet (by intro h; cases h) ?_
    refine QOps.st rfl rfl (Yv.assign rfl).yl ?_
    refine QOps.nil ?_
    refine Run.ret ?_
    refine retQ.of (.inr rfl) rfl (.tmp rfl .nil) (fun w' hw' => ?_)
    refine ⟨?_, hw'.bel.below⟩
    exact rfl
  · try replace hc1 := of_decide_eq_false hc1
    have hn1 : fs.length ≤ 1048576 := by split at hc1 <;> omega
    refine Run.skip ?_
    refine Run.seq ?_
    refine Run.draws (fun H => H) (m := 11) (listed := #[false, false, false, false, false, false, false, false, false, false, false]) (by kernel_rfl) rfl rfl ?_
    refine DOps.take (listed' := #[true, false, false, false, false, false, false, false, false, false, false]) 0 rfl (by kernel_rfl) rfl (List.Sublist.refl _) rfl rfl (Yv.move rfl) ?_
    refine DOps.take (listed' := #[true, false, true, false, false, false, false, false, false, false, false]) 2 rfl (by kernel_rfl) rfl (List.Sublist.refl _) rfl rfl (Yv.loadBs (i := 0) lay46 rfl rfl rfl rfl) ?_
    refine DOps.take (listed' := #[true, false, true, false, true, false, false, false, false, false, false]) 4 rfl (by kernel_rfl) rfl (List.Sublist.refl _) rfl rfl (Yv.move rfl) ?_
    refine DOps.only (listed' := #[true, true, true, false, true, false, false, false, false, false, false]) 1 rfl (by kernel_rfl) rfl rfl ?_
    refine One.callRow rfl callable16 (.cons rfl (.nil)) (fun w' hw' => toFixS_spec ((Rd.arg hs) w' hw') (by omega)) (fun A1 c1 => ?_)
    refine ⟨(List.Sublist.cons _ (List.Sublist.refl _)), ?_⟩
    refine DOps.only (listed' := #[true, true, true, true, true, false, false, false, false, false, false]) 3 rfl (by kernel_rfl) rfl rfl ?_
    refine One.st rfl (Yl.call callable33 (.cons rfl (.nil)) (fun w' hw' => toFix_spec)) ?_
    refine ⟨(List.Sublist.cons _ (List.Sublist.refl _)), ?_⟩
    refine DOps.only (listed' := #[true, true, true, true, true, true, false, false, false, false, false]) 5 rfl (by kernel_rfl) rfl rfl ?_
    refine One.callRow rfl callable32 (.cons rfl (.cons rfl (.cons rfl (.nil)))) (fun w' hw' => sAddFix_spec ((Rd.row (i := 0) rfl) w' hw')) (fun A2 c2 => ?_)
    refine ⟨(List.Sublist.cons _ (List.Sublist.cons _ (List.Sublist.refl _))), ?_⟩
    refine DOps.take (listed' := #[true, true, true, true, true, true, true, false, false, false, false]) 6 rfl (by kernel_rfl) rfl (List.Sublist.cons _ (List.Sublist.cons _ (List.Sublist.refl _))) rfl rfl (Yv.move rfl) ?_
    refine DOps.take (listed' := #[true, true, true, true, true, true, true, true, false, false, false]) 7 rfl (by kernel_rfl) rfl (List.Sublist.cons _ (List.Sublist.cons _ (List.Sublist.refl _))) rfl rfl (Yv.extract rfl rfl) ?_
    refine DOps.take (listed' := #[true, true, true, true, true, true, true, true, true, false, false]) 8 rfl (by kernel_rfl) rfl (List.Sublist.cons _ (List.Sublist.cons _ (List.Sublist.refl _))) rfl rfl (Yv.extract rfl rfl) ?_
    refine DOps.take (listed' := #[true, true, true, true, true, true, true, true, true, true, false]) 9 rfl (by kernel_rfl) rfl (List.Sublist.cons _ (List.Sublist.cons _ (List.Sublist.refl _))) rfl rfl (Yv.assign rfl) ?_
    refine DOps.take (listed' := #[true, true, true, true, true, true, true, true, true, true, true]) 10 rfl (by kernel_rfl) rfl (List.Sublist.cons _ (List.Sublist.cons _ (List.Sublist.refl _))) rfl rfl (Yv.assign rfl) ?_
    refine DOps.done (by kernel_rfl) ?_
    refine Run.seq ?_
    refine Run.ops ?_
    refine SOps.st rfl rfl (Yv.move rfl).yl ?_
    refine SOps.one rfl (One.callRow rfl callable16 (.cons rfl (.nil)) (fun w' hw' => toFixS_spec ((Rd.arg hs) w' hw') (by omega)) (fun A3 c3 => ?_))
    refine SOps.st rfl rfl (Yv.assign rfl).yl ?_
    refine SOps.nil ?_
    refine Run.seq ?_
    refine Run.ops ?_
    refine SOps.st rfl rfl (Yv.move rfl).yl ?_
    refine SOps.st rfl rfl (Yv.loadBs (i := 3) lay46 rfl rfl rfl rfl).yl ?_
    refine SOps.st rfl rfl (Yl.call callable33 (.cons rfl (.nil)) (fun w' hw' => toFix_spec)) ?_
    refine SOps.st rfl rfl (Yv.move rfl).yl ?_
    refine SOps.one rfl (One.callSub rfl callable34 (.cons rfl (.cons rfl (.cons rfl (.nil)))) (fun w' hw' => AddFix_spec ((Rd.row (i := 0) rfl) w' hw')) (fun A4 c4 => ?_))
    refine SOps.st rfl rfl (Yv.move rfl).yl ?_
    refine SOps.st rfl rfl (Yv.extract rfl rfl).yl ?_
    refine SOps.st rfl rfl (Yv.extract rfl rfl).yl ?_
    refine SOps.st rfl rfl (Yv.assign rfl).yl ?_
    refine SOps.st rfl rfl (Yv.assign rfl).yl ?_
    refine SOps.nil ?_
    refine Run.seq ?_
    refine Run.seq ?_
    refine Run.quiet (by intro h; cases h) ?_
    refine QOps.st rfl rfl (Yv.move rfl).yl ?_
    refine QOps.st rfl rfl (Yv.move rfl).yl ?_
    refine QOps.st rfl rfl (Yl.call callable18 (.cons rfl (.cons rfl (.nil))) (fun w' hw' => eqFixAdd_spec ((Rd.cutF Fix.len (Rd.row (i := 0) rfl) (by first | rfl | (rw [List.length_append, List.length_take, Fix.marks_len]; have h9 := addK2_le (fs := fs) (f := f) (pace := pace); omega)) addK2_le) w' hw') ((Rd.row (i := 2) rfl) w' hw'))) ?_
    refine QOps.st rfl rfl (Yv.not rfl).yl ?_
    refine QOps.st rfl rfl (Yv.move rfl).yl ?_
    refine' QOps.or [_, _, _] _ (.tmp 49) rfl rfl rfl rfl rfl rfl (fun hg1 => ?_) ?_
    rotate_left
    · try replace hg1 := of_decide_eq_false hg1
      refine QOps.st rfl rfl (Yv.move rfl).yl ?_
      refine QOps.st rfl rfl (Yv.move rfl).yl ?_
      refine QOps.st rfl rfl (Yv.neB bool4 rfl rfl).yl ?_
      exact QOps.nil rfl
    refine QOps.nil ?_
    refine Run.cond rfl (fun hc2 => ?_) (fun hc2 => ?_)
    · exfalso
      first | (simp at hc2; done) | (simp at hc2; omega) | omega
    · try replace hc2 := of_decide_eq_false hc2
      refine Run.skip ?_
      refine Run.seq ?_
      refine Run.seq ?_
      refine Run.ops ?_
      refine SOps.st rfl rfl (Yv.move rfl).yl ?_
      refine SOps.st rfl rfl (Yv.move rfl).yl ?_
      refine SOps.one rfl (One.callRow rfl callable16 (.cons rfl (.nil)) (fun w' hw' => toFixS_spec ((Rd.arg hs) w' hw') (by omega)) (fun A5 c5 => ?_))
      refine SOps.st rfl rfl (Yl.call callable18 (.cons rfl (.cons rfl (.nil))) (fun w' hw' => eqFixS_spec ((Rd.row (i := 2) rfl) w' hw') ((Rd.row (i := 0) rfl) w' hw'))) ?_
      refine SOps.st rfl rfl (Yv.not rfl).yl ?_
      refine SOps.nil ?_
      refine Run.cond rfl (fun hc3 => ?_) (fun hc3 => ?_)
      · exfalso
        first | (simp at hc3; done) | (simp at hc3; omega) | omega
      · try replace hc3 := of_decide_eq_false hc3
        refine Run.skip ?_
        refine Run.seq ?_
        refine Run.quiet (by intro h; cases h) ?_
        refine QOps.st rfl rfl (Yv.assign rfl).yl ?_
        refine QOps.nil ?_
        refine Run.seq ?_
        refine Run.ops ?_
        refine SOps.st rfl rfl (Yv.move rfl).yl ?_
        refine SOps.st rfl rfl (Yv.move rfl).yl ?_
        refine SOps.one rfl (One.callMut (i := 2) (H' := [_, _, _, _, _, _]) rfl callable35 (.cons rfl (.cons rfl (.nil))) rfl (fun w' hw' => markFixS_spec (hw'.ent _ (List.mem_of_getElem? (i := 2) rfl)) (by omega) (by omega) (by omega)) rfl ?_)
        refine SOps.st rfl rfl (Yv.assign rfl).yl ?_
        refine SOps.nil ?_
        refine Run.seq ?_
        refine Run.seq ?_
        refine Run.quiet (by intro h; cases h) ?_
        refine QOps.st rfl rfl (Yv.move rfl).yl ?_
        refine QOps.st rfl rfl (Yv.lss rfl rfl).yl ?_
        refine QOps.st rfl rfl (Yv.move rfl).yl ?_
        refine' QOps.or [_, _, _, _] _ (.tmp 65) rfl rfl rfl rfl rfl rfl (fun hg2 => ?_) ?_
        rotate_left
        · try replace hg2 := of_decide_eq_false hg2
          refine QOps.st rfl rfl (Yv.move rfl).yl ?_
          refine QOps.st rfl rfl (Yv.move rfl).yl ?_
          refine QOps.st rfl rfl (Yl.call callable18 (.cons rfl (.cons rfl (.nil))) (fun w' hw' => eqFixAdd_spec ((Rd.cutF Fix.len (Rd.row (i := 1) rfl) (by first | rfl | (rw [List.length_append, List.length_take, Fix.marks_len]; have h9 := addK2_le (fs := fs) (f := f) (pace := pace); omega)) addK2_le) w' hw') ((Rd.row (i := 3) rfl) w' hw'))) ?_
          refine QOps.st rfl rfl (Yv.not rfl).yl ?_
          exact QOps.nil rfl
        refine QOps.st rfl rfl (Yv.move rfl).yl ?_
        refine' QOps.or [_, _, _] _ (.tmp 70) rfl rfl rfl rfl rfl rfl (fun hg3 => ?_) ?_
        rotate_left
        · try replace hg3 := of_decide_eq_false hg3
          refine QOps.st rfl rfl (Yv.move rfl).yl ?_
          refine QOps.st rfl rfl (Yv.move rfl).yl ?_
          refine QOps.st rfl rfl (Yv.neB bool4 rfl rfl).yl ?_
          exact QOps.nil rfl
        refine QOps.nil ?_
        refine Run.cond rfl (fun hc4 => ?_) (fun hc4 => ?_)
        · exfalso
          first | (simp at hc4; done) | (simp at hc4; omega) | omega
        · try replace hc4 := of_decide_eq_false hc4
          refine Run.skip ?_
          refine Run.seq ?_
          refine Run.quiet (by intro h; cases h) ?_
          refine QOps.st rfl rfl (Yv.assign rfl).yl ?_
          refine QOps.nil ?_
          refine Run.seq ?_
          refine Run.ops ?_
          refine SOps.st rfl rfl (Yv.move rfl).yl ?_
          refine SOps.st rfl rfl (Yv.move rfl).yl ?_
          refine SOps.one rfl (One.callMut (i := 1) (H' := [_, _, _, _, _, _]) rfl callable35 (.cons rfl (.cons rfl (.nil))) rfl (fun w' hw' => markFixSub_spec (hw'.ent _ (List.mem_of_getElem? (i := 1) rfl)) rfl addK2_le (by omega) (by omega) (by omega)) rfl ?_)
          refine SOps.st rfl rfl (Yv.assign rfl).yl ?_
          refine SOps.nil ?_
          refine Run.seq ?_
          refine Run.quiet (by intro h; cases h) ?_
          refine QOps.st rfl rfl (Yv.assign rfl).yl ?_
          refine QOps.nil ?_
          refine Run.seq ?_
          refine Run.quiet (by intro h; cases h) ?_
          refine QOps.st rfl rfl (Yv.move rfl).yl ?_
          refine QOps.st rfl rfl (Yv.move rfl).yl ?_
          refine QOps.st rfl rfl (Yl.call callable36 (.cons rfl (.cons rfl (.nil))) (fun w' hw' => heldSub_spec ((Rd.cutF Fix.len (Rd.row (i := 1) rfl) (by first | rfl | (rw [List.length_append, List.length_take, Fix.marks_len]; have h9 := addK2_le (fs := fs) (f := f) (pace := pace); omega)) addK2_le) w' hw') addK2_le (by omega) (by omega) (by omega))) ?_
          refine QOps.st rfl rfl (Yv.assign rfl).yl ?_
          refine QOps.nil ?_
          refine Run.seq ?_
          refine Run.seq ?_
          refine Run.quiet (by intro h; cases h) ?_
          refine QOps.st rfl rfl (Yv.move rfl).yl ?_
          refine QOps.st rfl rfl (Yv.lss rfl rfl).yl ?_
          refine QOps.nil ?_
          refine Run.cond rfl (fun hc5 => ?_) (fun hc5 => ?_)
          · exfalso
            first | (simp at hc5; done) | (simp at hc5; omega) | omega
          · try replace hc5 := of_decide_eq_false hc5
            refine Run.skip ?_
            refine Run.seq ?_
            refine Run.seq ?_
            refine Run.quiet (by intro h; cases h) ?_
            refine QOps.st rfl rfl (Yv.move rfl).yl ?_
            refine QOps.st rfl rfl (Yv.move rfl).yl ?_
            refine QOps.st rfl rfl (Yv.neI rfl rfl).yl ?_
            refine QOps.nil ?_
            refine Run.cond rfl (fun hc6 => ?_) (fun hc6 => ?_)
            · exfalso
              first | (simp at hc6; done) | (simp at hc6; omega) | omega
            · try replace hc6 := of_decide_eq_false hc6
              refine Run.skip ?_
              refine Run.seq ?_
              refine Run.draws (fun H => H) (m := 11) (listed := #[false, false, false, false, false, false, false, false, false, false, false]) (by kernel_rfl) rfl rfl ?_
              refine DOps.take (listed' := #[true, false, false, false, false, false, false, false, false, false, false]) 0 rfl (by kernel_rfl) rfl (List.Sublist.refl _) rfl rfl (Yv.move rfl) ?_
              refine DOps.take (listed' := #[true, false, true, false, false, false, false, false, false, false, false]) 2 rfl (by kernel_rfl) rfl (List.Sublist.refl _) rfl rfl (Yv.loadBs (i := 5) lay46 rfl rfl rfl rfl) ?_
              refine DOps.take (listed' := #[true, false, true, false, true, false, false, false, false, false, false]) 4 rfl (by kernel_rfl) rfl (List.Sublist.refl _) rfl rfl (Yv.move rfl) ?_
              refine DOps.only (listed' := #[true, true, true, false, true, false, false, false, false, false, false]) 1 rfl (by kernel_rfl) rfl rfl ?_
              refine One.callRow rfl callable16 (.cons rfl (.nil)) (fun w' hw' => toFixS_spec ((Rd.arg hs) w' hw') (by omega)) (fun A6 c6 => ?_)
              refine ⟨(List.Sublist.cons _ (List.Sublist.refl _)), ?_⟩
              refine DOps.only (listed' := #[true, true, true, true, true, false, false, false, false, false, false]) 3 rfl (by kernel_rfl) rfl rfl ?_
              refine One.st rfl (Yl.call callable33 (.cons rfl (.nil)) (fun w' hw' => toFix_spec)) ?_
              refine ⟨(List.Sublist.cons _ (List.Sublist.refl _)), ?_⟩
              refine DOps.only (listed' := #[true, true, true, true, true, true, false, false, false, false, false]) 5 rfl (by kernel_rfl) rfl rfl ?_
              refine One.callSub rfl callable34 (.cons rfl (.cons rfl (.cons rfl (.nil)))) (fun w' hw' => AddFix_spec ((Rd.row (i := 0) rfl) w' hw')) (fun A7 c7 => ?_)
              refine ⟨(List.Sublist.cons _ (List.Sublist.cons _ (List.Sublist.refl _))), ?_⟩
              refine DOps.take (listed' := #[true, true, true, true, true, true, true, false, false, false, false]) 6 rfl (by kernel_rfl) rfl (List.Sublist.cons _ (List.Sublist.cons _ (List.Sublist.refl _))) rfl rfl (Yv.move rfl) ?_
              refine DOps.take (listed' := #[true, true, true, true, true, true, true, true, false, false, false]) 7 rfl (by kernel_rfl) rfl (List.Sublist.cons _ (List.Sublist.cons _ (List.Sublist.refl _))) rfl rfl (Yv.extract rfl rfl) ?_
              refine DOps.take (listed' := #[true, true, true, true, true, true, true, true, true, false, false]) 8 rfl (by kernel_rfl) rfl (List.Sublist.cons _ (List.Sublist.cons _ (List.Sublist.refl _))) rfl rfl (Yv.extract rfl rfl) ?_
              refine DOps.take (listed' := #[true, true, true, true, true, true, true, true, true, true, false]) 9 rfl (by kernel_rfl) rfl (List.Sublist.cons _ (List.Sublist.cons _ (List.Sublist.refl _))) rfl rfl (Yv.assign rfl) ?_
              refine DOps.take (listed' := #[true, true, true, true, true, true, true, true, true, true, true]) 10 rfl (by kernel_rfl) rfl (List.Sublist.cons _ (List.Sublist.cons _ (List.Sublist.refl _))) rfl rfl (Yv.assign rfl) ?_
              refine DOps.done (by kernel_rfl) ?_
              refine Run.seq ?_
              refine Run.seq ?_
              refine Run.quiet (by intro h; cases h) ?_
              refine QOps.st rfl rfl (Yv.move rfl).yl ?_
              refine QOps.st rfl rfl (Yv.move rfl).yl ?_
              refine QOps.st rfl rfl (Yl.call callable18 (.cons rfl (.cons rfl (.nil))) (fun w' hw' => eqFixAdd_spec ((Rd.cutF Fix.len (Rd.row (i := 0) rfl) (by first | rfl | (rw [List.length_append, List.length_take, Fix.marks_len]; have h9 := addK2_le (fs := fs) (f := f) (pace := pace); omega)) addK2_le) w' hw') ((Rd.row (i := 5) rfl) w' hw'))) ?_
              refine QOps.st rfl rfl (Yv.not rfl).yl ?_
              refine QOps.st rfl rfl (Yv.move rfl).yl ?_
              refine' QOps.or [_, _, _] _ (.tmp 99) rfl rfl rfl rfl rfl rfl (fun hg4 => ?_) ?_
              rotate_left
              · try replace hg4 := of_decide_eq_false hg4
                refine QOps.st rfl rfl (Yv.move rfl).yl ?_
                refine QOps.st rfl rfl (Yv.move rfl).yl ?_
                refine QOps.st rfl rfl (Yv.neB bool4 rfl rfl).yl ?_
                exact QOps.nil rfl
              refine QOps.nil ?_
              refine Run.cond rfl (fun hc7 => ?_) (fun hc7 => ?_)
              · exfalso
                first | (simp at hc7; done) | (simp at hc7; omega) | omega
              · try replace hc7 := of_decide_eq_false hc7
                refine Run.skip ?_
                refine Run.seq ?_
                refine Run.quiet (by intro h; cases h) ?_
                refine QOps.st rfl rfl (Yv.assign rfl).yl ?_
                refine QOps.nil ?_
                refine Run.seq ?_
                refine Run.quiet (by intro h; cases h) ?_
                refine QOps.st rfl rfl (Yv.move rfl).yl ?_
                refine QOps.st rfl rfl (Yv.move rfl).yl ?_
                refine QOps.st rfl rfl (Yl.call callable36 (.cons rfl (.cons rfl (.nil))) (fun w' hw' => heldSub_spec ((Rd.cutF Fix.len (Rd.row (i := 3) rfl) (by first | rfl | (rw [List.length_append, List.length_take, Fix.marks_len]; have h9 := addK2_le (fs := fs) (f := f) (pace := pace); omega)) addK2_le) w' hw') addK2_le (by omega) (by omega) (by omega))) ?_
                refine QOps.st rfl rfl (Yv.assign rfl).yl ?_
                refine QOps.nil ?_
                refine Run.seq ?_
                refine Run.seq ?_
                refine Run.quiet (by intro h; cases h) ?_
                refine QOps.st rfl rfl (Yv.move rfl).yl ?_
                refine QOps.st rfl rfl (Yv.lss rfl rfl).yl ?_
                refine QOps.nil ?_
                refine Run.cond rfl (fun hc8 => ?_) (fun hc8 => ?_)
                · exfalso
                  first | (simp at hc8; done) | (simp at hc8; omega) | omega
                · try replace hc8 := of_decide_eq_false hc8
                  refine Run.skip ?_
                  refine Run.seq ?_
                  refine Run.seq ?_
                  refine Run.quiet (by intro h; cases h) ?_
                  refine QOps.st rfl rfl (Yv.move rfl).yl ?_
                  refine QOps.st rfl rfl (Yv.move rfl).yl ?_
                  refine QOps.st rfl rfl (Yv.neI rfl rfl).yl ?_
                  refine QOps.nil ?_
                  refine Run.cond rfl (fun hc9 => ?_) (fun hc9 => ?_)
                  · exfalso
                    first | (simp at hc9; done) | (simp at hc9; omega) | omega
                  · try replace hc9 := of_decide_eq_false hc9
                    refine Run.skip ?_
                    refine Run.seq ?_
                    refine Run.quiet (by intro h; cases h) ?_
                    refine QOps.st rfl rfl (Yv.assign rfl).yl ?_
                    refine QOps.nil ?_
                    refine Run.ret ?_
                    refine retQ.of (.inr rfl) rfl (.tmp rfl .nil) (fun w' hw' => ?_)
                    refine ⟨?_, hw'.bel.below⟩
                    exact rfl
end Go.Proofs.Ytliealfihglkmaa
