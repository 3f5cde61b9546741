/- Notices: which ones a trip meets. Conditions: none. -/
import Derived.Test.YtjabeiolgghfdaaNot5
namespace Go.Proofs.Ytjabeiolgghfdaa
open Go.RowKit
theorem eqIntS_spec {w : World} {A A2 : Option Addr} {c c2 : Nat} {l : List Int} (hs : Sl w 1 A l.length c (l.flatMap intC)) (hs2 : Sl w 1 A2 l.length c2 (l.flatMap intC)) :
    Calls Try.prog 27 #[.slice A l.length c, .slice A2 l.length c2] w (RetB w (.bool true)) := by
  have hmx := Sl.lenle hs
  refine calls_of_run (vs := [_, _]) (L := [(0, _), (1, _)]) (n := 26) (F := []) (H := []) Try.func27 rfl rfl rfl rfl (HOk.start _) ?_
  refine Run.seq ?_
  refine Run.quiet (by intro h; cases h) ?_
  refine QOps.st rfl rfl (Yv.assign rfl).yl ?_
  refine QOps.nil ?_
  refine Run.seq ?_
  refine Run.seq ?_
  refine Run.quiet (by intro h; cases h) ?_
  refine QOps.st rfl rfl (Yv.move rfl).yl ?_
  refine QOps.st rfl rfl (Yv.lenS el36s rfl).yl ?_
  refine QOps.st rfl rfl (Yv.move rfl).yl ?_
  refine QOps.st rfl rfl (Yv.lenS el36s rfl).yl ?_
  refine QOps.st rfl rfl (Yv.neI rfl rfl).yl ?_
  refine QOps.nil ?_
  refine Run.cond rfl (fun hc1 => ?_) (fun hc1 => ?_)
  · exfalso
    simp at hc1
  · try replace hc1 := of_decide_eq_false hc1
    refine Run.skip ?_
    refine Run.seq ?_
    refine Run.seq ?_
    refine Run.quiet (by intro h; cases h) ?_
    refine QOps.st rfl rfl (Yv.assign rfl).yl ?_
    refine QOps.nil ?_
    refine Run.block ?_
    refine Run.loop (S := Nat) (fun s => match s with | k => k ≤ l.length) (fun s => match s with | k => [(0, .slice A l.length c), (1, .slice A2 l.length c2), (5, .int .i64 (k : Int))]) (fun s => match s with | k => []) (fun s => match s with | k => l.length - k) 0 ?_ (SubE.cons rfl (SubE.cons rfl (SubE.cons rfl (SubE.nil _)))) (List.Sublist.refl _) ?_
    · exact Nat.zero_le _
    · rintro k hk
      show Run _ _ _ _ _ [(0, .slice A l.length c), (1, .slice A2 l.length c2), (5, .int .i64 (k : Int))] [] _
      refine Run.seq ?_
      refine Run.seq ?_
      refine Run.quiet (by intro h; cases h) ?_
      refine QOps.st rfl rfl (Yv.move rfl).yl ?_
      refine QOps.st rfl rfl (Yv.move rfl).yl ?_
      refine QOps.st rfl rfl (Yv.lenS el36s rfl).yl ?_
      refine QOps.st rfl rfl (Yv.lss rfl rfl).yl ?_
      refine QOps.nil ?_
      refine Run.cond rfl (fun hc2 => ?_) (fun hc2 => ?_)
      · try replace hc2 := of_decide_eq_true hc2
        refine Run.skip ?_
        refine Run.seq ?_
        refine Run.block ?_
        refine Run.seq ?_
        refine Run.quiet (fun _ => ⟨by kernel_rfl, by kernel_rfl⟩) ?_
        refine QOps.st rfl rfl (Yv.move rfl).yl ?_
        refine QOps.st rfl rfl (Yv.move rfl).yl ?_
        refine QOps.st rfl rfl (Yv.indexAddr k el36 rfl rfl rfl (Rd.arg hs) (by omega)).yl ?_
        refine QOps.st rfl rfl (Yv.loadE lay3 rfl intC_len (Rd.arg hs) (by first | omega | (simp; omega)) rfl).yl ?_
        refine QOps.st rfl rfl (Yv.move rfl).yl ?_
        refine QOps.st rfl rfl (Yv.move rfl).yl ?_
        refine QOps.st rfl rfl (Yv.indexAddr k el36 rfl rfl rfl (Rd.arg hs2) (by omega)).yl ?_
        refine QOps.st rfl rfl (Yv.loadE lay3 rfl intC_len (Rd.arg hs2) (by first | omega | (simp; omega)) rfl).yl ?_
        refine QOps.st rfl rfl (Yv.neI rfl rfl).yl ?_
        refine QOps.nil ?_
        refine Run.cond rfl (fun hc3 => ?_) (fun hc3 => ?_)
        · exfalso
          simp at hc3
        · try replace hc3 := of_decide_eq_false hc3
          refine Run.skip ?_
          refine Run.quiet (by intro h; cases h) ?_
          refine QOps.st rfl rfl (Yv.move rfl).yl ?_
          refine QOps.st rfl rfl (Yv.succN rfl rfl (by omega)).yl ?_
          refine QOps.st rfl rfl (Yv.assign rfl).yl ?_
          refine QOps.nil ?_
          refine ⟨k + 1, ?_, ?_, (SubE.cons rfl (SubE.cons rfl (SubE.cons rfl (SubE.nil _)))), (List.Sublist.refl _)⟩
          · show k + 1 ≤ _; omega
          · first | omega | (dsimp only; omega)
      · try replace hc2 := of_decide_eq_false hc2
        refine Run.exit ?_
        refine Run.seq ?_
        refine Run.quiet (by intro h; cases h) ?_
        refine QOps.st rfl rfl (Yv.assign rfl).yl ?_
        refine QOps.nil ?_
        refine Run.ret ?_
        refine retQ.of (.inr rfl) rfl (.tmp rfl .nil) (fun w' hw' => ?_)
        refine ⟨?_, hw'.bel.below⟩
        exact rfl
/-- The marks that a row of numbers is given: the numbers from j on. -/
def marks (m : Nat) (j : Int) : List Int := (List.range m).map (fun (i : Nat) => j + (i : Int))
theorem marks_len (m : Nat) (j : Int) : (marks m j).length = m := by simp [marks]
theorem marks_nth {m : Nat} {j : Int} {i : Nat} (h : i < m) : nth (marks m j) i = j + (i : Int) := by simp [nth, marks, h]
theorem markIntS_spec {w : World} {A : Option Addr} {c T : Nat} {l : List Int} {j0 : Int} (hrow : (HEnt.row A c T 1 l.length (l.flatMap intC)).ok w) (hl : l.length ≤ 1048576) (h1 : 0 ≤ j0) (h2 : j0 ≤ 4611686018427387904) :
    Calls Try.prog 29 #[.slice A l.length c, .int .i64 j0] w (RetMut w A c T 1 l.length ((marks l.length j0).flatMap intC) (.int .i64 (j0 + (l.length : Int)))) := by
  refine calls_of_run (vs := [_, _]) (L := [(0, _), (1, _)]) (n := 19) (F := (A.map (·.block)).toList) (H := [_]) Try.func29 rfl rfl rfl rfl (HOk.borrowRow hrow) ?_
  refine Run.seq ?_
  refine Run.quiet (by intro h; cases h) ?_
  refine QOps.st rfl rfl (Yv.assign rfl).yl ?_
  refine QOps.nil ?_
  refine Run.seq ?_
  refine Run.seq ?_
  refine Run.quiet (by intro h; cases h) ?_
  refine QOps.st rfl rfl (Yv.assign rfl).yl ?_
  refine QOps.nil ?_
  refine Run.block ?_
  refine Run.loop (S := Nat × Int × List Int) (fun s => match s with | (k, j, o) => k ≤ l.length ∧ o.length = l.length ∧ j = j0 + (k : Int) ∧ ∀ i, i < k → nth o i = j0 + (i : Int)) (fun s => match s with | (k, j, o) => [(0, .slice A l.length c), (1, .int .i64 j), (5, .int .i64 (k : Int))]) (fun s => match s with | (k, j, o) => [.row A c T 1 l.length (o.flatMap intC)]) (fun s => match s with | (k, j, o) => l.length - k) (0, j0, l) ?_ (SubE.cons rfl (SubE.cons rfl (SubE.cons rfl (SubE.nil _)))) (List.Sublist.refl _) ?_
  · exact ⟨by omega, rfl, by simp, fun i hi => by omega⟩
  · rintro ⟨k, j, o⟩ ⟨hk, hol, hj, heq⟩
    show Run _ _ _ _ _ [(0, .slice A l.length c), (1, .int .i64 j), (5, .int .i64 (k : Int))] [.row A c T 1 l.length (o.flatMap intC)] _
    refine Run.seq ?_
    refine Run.seq ?_
    refine Run.quiet (by intro h; cases h) ?_
    refine QOps.st rfl rfl (Yv.move rfl).yl ?_
    refine QOps.st rfl rfl (Yv.move rfl).yl ?_
    refine QOps.st rfl rfl (Yv.lenS el36s rfl).yl ?_
    refine QOps.st rfl rfl (Yv.lss rfl rfl).yl ?_
    refine QOps.nil ?_
    refine Run.cond rfl (fun hc1 => ?_) (fun hc1 => ?_)
    · try replace hc1 := of_decide_eq_true hc1
      refine Run.skip ?_
      refine Run.seq ?_
      refine Run.block ?_
      refine Run.seq ?_
      refine Run.ops ?_
      refine SOps.st rfl rfl (Yv.move rfl).yl ?_
      refine SOps.st rfl rfl (Yv.move rfl).yl ?_
      refine SOps.st rfl rfl (Yv.move rfl).yl ?_
      refine SOps.st rfl rfl (Yv.indexAddr k el36 rfl rfl rfl (Rd.row (i := 0) rfl) (by omega)).yl ?_
      refine SOps.one rfl (One.storeE (i := 0) (k := k) (f := 0) (H' := [_]) (e := j) lay3 rfl rfl rfl intC_len rfl (by decide) rfl rfl rfl (by first | omega | (simp; omega)) (by first | omega | (simp; omega)) rfl ?_)
      refine SOps.nil ?_
      refine Run.quiet (by intro h; cases h) ?_
      refine QOps.st rfl rfl (Yv.move rfl).yl ?_
      refine QOps.st rfl rfl (Yv.add rfl rfl (by omega)).yl ?_
      refine QOps.st rfl rfl (Yv.assign rfl).yl ?_
      refine QOps.nil ?_
      refine Run.quiet (by intro h; cases h) ?_
      refine QOps.st rfl rfl (Yv.move rfl).yl ?_
      refine QOps.st rfl rfl (Yv.succN rfl rfl (by omega)).yl ?_
      refine QOps.st rfl rfl (Yv.assign rfl).yl ?_
      refine QOps.nil ?_
      refine ⟨(k + 1, _, _), ?_, ?_, (SubE.cons rfl (SubE.cons rfl (SubE.cons rfl (SubE.nil _)))), (List.Sublist.refl _)⟩
      · exact ⟨by omega, by simpa using hol, by omega, all_succ (fun i hi => by rw [nth_set_ne (by omega)]; exact heq i hi) (by rw [nth_set_self (by omega)]; exact hj)⟩
      · first | omega | (dsimp only; omega)
    · try replace hc1 := of_decide_eq_false hc1
      refine Run.exit ?_
      refine Run.seq ?_
      refine Run.quiet (by intro h; cases h) ?_
      refine QOps.st rfl rfl (Yv.move rfl).yl ?_
      refine QOps.st rfl rfl (Yv.assign rfl).yl ?_
      refine QOps.nil ?_
      refine Run.ret ?_
      obtain rfl : k = l.length := by omega
      have hoe : o = marks l.length j0 := eq_of_nth (by rw [hol, marks_len]) (fun i hi => by rw [marks_len] at hi; rw [marks_nth hi]; exact heq i hi)
      subst hoe
      refine retQ.of (.inr rfl) rfl (.tmp rfl .nil) (fun w' hw' => ?_)
      exact ⟨by rw [hj]; rfl, hw'.bel, hw'.ent _ (List.mem_of_getElem? (i := 0) rfl)⟩
theorem heldIntS_spec {w : World} {A : Option Addr} {c m : Nat} {j0 : Int} (hs : Sl w 1 A m c ((marks m j0).flatMap intC)) (hl : m ≤ 1048576) (h1 : 0 ≤ j0) (h2 : j0 ≤ 4611686018427387904) :
    Calls Try.prog 30 #[.slice A m c, .int .i64 j0] w (RetB w (.int .i64 (j0 + (m : Int)))) := by
  have hml := marks_len m j0
  refine calls_of_run (vs := [_, _]) (L := [(0, _), (1, _)]) (n := 21) (F := []) (H := []) Try.func30 rfl rfl rfl rfl (HOk.start _) ?_
  refine Run.seq ?_
  refine Run.quiet (by intro h; cases h) ?_
  refine QOps.st rfl rfl (Yv.assign rfl).yl ?_
  refine QOps.nil ?_
  refine Run.seq ?_
  refine Run.seq ?_
  refine Run.quiet (by intro h; cases h) ?_
  refine QOps.st rfl rfl (Yv.assign rfl).yl ?_
  refine QOps.nil ?_
  refine Run.block ?_
  refine Run.loop (S := Nat × Int) (fun s => match s with | (k, j) => k ≤ m ∧ j = j0 + (k : Int)) (fun s => match s with | (k, j) => [(0, .slice A m c), (1, .int .i64 j), (5, .int .i64 (k : Int))]) (fun s => match s with | (k, j) => []) (fun s => match s with | (k, j) => m - k) (0, j0) ?_ (SubE.cons rfl (SubE.cons rfl (SubE.cons rfl (SubE.nil _)))) (List.Sublist.refl _) ?_
  · exact ⟨by omega, by simp⟩
  · rintro ⟨k, j⟩ ⟨hk, hj⟩
    show Run _ _ _ _ _ [(0, .slice A m c), (1, .int .i64 j), (5, .int .i64 (k : Int))] [] _
    refine Run.seq ?_
    refine Run.seq ?_
    refine Run.quiet (by intro h; cases h) ?_
    refine QOps.st rfl rfl (Yv.move rfl).yl ?_
    refine QOps.st rfl rfl (Yv.move rfl).yl ?_
    refine QOps.st rfl rfl (Yv.lenS el36s rfl).yl ?_
    refine QOps.st rfl rfl (Yv.lss rfl rfl).yl ?_
    refine QOps.nil ?_
    refine Run.cond rfl (fun hc1 => ?_) (fun hc1 => ?_)
    · try replace hc1 := of_decide_eq_true hc1
      refine Run.skip ?_
      refine Run.seq ?_
      refine Run.block ?_
      refine Run.seq ?_
      refine Run.seq ?_
      refine Run.quiet (by intro h; cases h) ?_
      refine QOps.st rfl rfl (Yv.move rfl).yl ?_
      refine QOps.st rfl rfl (Yv.move rfl).yl ?_
      refine QOps.st rfl rfl (Yv.indexAddr k el36 rfl rfl rfl (Rd.arg hs) (by omega)).yl ?_
      refine QOps.st rfl rfl (Yv.loadE lay3 rfl intC_len (Rd.arg hs) (by omega) rfl).yl ?_
      refine QOps.st rfl rfl (Yv.move rfl).yl ?_
      refine QOps.st rfl rfl (Yv.neI rfl rfl).yl ?_
      refine QOps.nil ?_
      refine Run.cond rfl (fun hc2 => ?_) (fun hc2 => ?_)
      · exfalso
        simp [marks_nth (show k < m by omega)] at hc2; try omega
      · try replace hc2 := of_decide_eq_false hc2
        refine Run.skip ?_
        refine Run.quiet (by intro h; cases h) ?_
        refine QOps.st rfl rfl (Yv.move rfl).yl ?_
        refine QOps.st rfl rfl (Yv.add rfl rfl (by omega)).yl ?_
        refine QOps.st rfl rfl (Yv.assign rfl).yl ?_
        refine QOps.nil ?_
        refine Run.quiet (by intro h; cases h) ?_
        refine QOps.st rfl rfl (Yv.move rfl).yl ?_
        refine QOps.st rfl rfl (Yv.succN rfl rfl (by omega)).yl ?_
        refine QOps.st rfl rfl (Yv.assign rfl).yl ?_
        refine QOps.nil ?_
        refine ⟨(k + 1, _), ?_, ?_, (SubE.cons rfl (SubE.cons rfl (SubE.cons rfl (SubE.nil _)))), (List.Sublist.refl _)⟩
        · exact ⟨by omega, by omega⟩
        · first | omega | (dsimp only; omega)
    · try replace hc1 := of_decide_eq_false hc1
      refine Run.exit ?_
      refine Run.seq ?_
      refine Run.quiet (by intro h; cases h) ?_
      refine QOps.st rfl rfl (Yv.move rfl).yl ?_
      refine QOps.st rfl rfl (Yv.assign rfl).yl ?_
      refine QOps.nil ?_
      refine Run.ret ?_
      obtain rfl : k = m := by omega
      refine retQ.of (.inr rfl) rfl (.tmp rfl .nil) (fun w' hw' => ?_)
      refine ⟨?_, hw'.bel.below⟩
      refine retI_eq ?_
      exact hj
/-- The marks that a row is given: the numbers from j on. -/
def Notice.mark (j : Int) (i : Nat) : Notice := ⟨j + 7 * (i : Int), j + 7 * (i : Int) + 1, j + 7 * (i : Int) + 2, j + 7 * (i : Int) + 3, j + 7 * (i : Int) + 4, j + 7 * (i : Int) + 5, j + 7 * (i : Int) + 6⟩
def Notice.marks (m : Nat) (j : Int) : List Notice := (List.range m).map (Notice.mark j)
theorem Notice.marks_len (m : Nat) (j : Int) : (Notice.marks m j).length = m := by simp [Notice.marks]
theorem Notice.marks_nth {m : Nat} {j : Int} {i : Nat} (h : i < m) : nth (Notice.marks m j) i = Notice.mark j i := by simp [nth, Notice.marks, h]

theorem markNoticeS_spec {w : World} {A : Option Addr} {c T : Nat} {l : List Notice} {j0 : Int} (hrow : (HEnt.row A c T 7 l.length (l.flatMap Notice.enc)).ok w) (hl : l.length ≤ 1048576) (h1 : 0 ≤ j0) (h2 : j0 ≤ 4611686018427387904) :
    Calls Try.prog 28 #[.slice A l.length c, .int .i64 j0] w (RetMut w A c T 7 l.length ((Notice.marks l.length j0).flatMap Notice.enc) (.int .i64 (j0 + 7 * (l.length : Int)))) := by
  refine calls_of_run (vs := [_, _]) (L := [(0, _), (1, _)]) (n := 62) (F := (A.map (·.block)).toList) (H := [_]) Try.func28 rfl rfl rfl rfl (HOk.borrowRow hrow) ?_
  refine Run.seq ?_
  refine Run.quiet (by intro h; cases h) ?_
  refine QOps.st rfl rfl (Yv.assign rfl).yl ?_
  refine QOps.nil ?_
  refine Run.seq ?_
  refine Run.seq ?_
  refine Run.quiet (by intro h; cases h) ?_
  refine QOps.st rfl rfl (Yv.assign rfl).yl ?_
  refine QOps.nil ?_
  refine Run.block ?_
  refine Run.loop (S := Nat × Int × List Notice) (fun s => match s with | (k, j, o) => k ≤ l.length ∧ o.length = l.length ∧ j = j0 + 7 * (k : Int) ∧ ∀ i, i < k → nth o i = Notice.mark j0 i) (fun s => match s with | (k, j, o) => [(0, .slice A l.length c), (1, .int .i64 j), (5, .int .i64 (k : Int))]) (fun s => match s with | (k, j, o) => [.row A c T 7 l.length (o.flatMap Notice.enc)]) (fun s => match s with | (k, j, o) => l.length - k) (0, j0, l) ?_ (SubE.cons rfl (SubE.cons rfl (SubE.cons rfl (SubE.nil _)))) (List.Sublist.refl _) ?_
  · exact ⟨by omega, rfl, by simp, fun i hi => by omega⟩
  · rintro ⟨k, j, o⟩ ⟨hk, hol, hj, heq⟩
    show Run _ _ _ _ _ [(0, .slice A l.length c), (1, .int .i64 j), (5, .int .i64 (k : Int))] [.row A c T 7 l.length (o.flatMap Notice.enc)] _
    refine Run.seq ?_
    refine Run.seq ?_
    refine Run.quiet (by intro h; cases h) ?_
    refine QOps.st rfl rfl (Yv.move rfl).yl ?_
    refine QOps.st rfl rfl (Yv.move rfl).yl ?_
    refine QOps.st rfl rfl (Yv.lenS el25s rfl).yl ?_
    refine QOps.st rfl rfl (Yv.lss rfl rfl).yl ?_
    refine QOps.nil ?_
    refine Run.cond rfl (fun hc1 => ?_) (fun hc1 => ?_)
    · try replace hc1 := of_decide_eq_true hc1
      refine Run.skip ?_
      refine Run.seq ?_
      refine Run.block ?_
      refine Run.seq ?_
      refine Run.ops ?_
      refine SOps.st rfl rfl (Yv.move rfl).yl ?_
      refine SOps.st rfl rfl (Yv.move rfl).yl ?_
      refine SOps.st rfl rfl (Yv.move rfl).yl ?_
      refine SOps.st rfl rfl (Yv.indexAddr k el25 rfl rfl rfl (Rd.row (i := 0) rfl) (by omega)).yl ?_
      refine SOps.st rfl rfl (Yv.fieldAddr fld59_0 rfl).yl ?_
      refine SOps.one rfl (One.storeE (i := 0) (k := k) (f := 0) (H' := [_]) (e := ⟨j, (nth o k).kind, (nth o k).start, (nth o k).stop, (nth o k).first, (nth o k).last, (nth o k).value⟩) lay3 rfl rfl rfl Notice.len rfl (by decide) rfl rfl rfl (by first | omega | (simp; omega)) (by first | omega | (simp; omega)) rfl ?_)
      refine SOps.nil ?_
      refine Run.seq ?_
      refine Run.quiet (by intro h; cases h) ?_
      refine QOps.st rfl rfl (Yv.move rfl).yl ?_
      refine QOps.st rfl rfl (Yv.add rfl rfl (by omega)).yl ?_
      refine QOps.st rfl rfl (Yv.assign rfl).yl ?_
      refine QOps.nil ?_
      refine Run.seq ?_
      refine Run.ops ?_
      refine SOps.st rfl rfl (Yv.move rfl).yl ?_
      refine SOps.st rfl rfl (Yv.move rfl).yl ?_
      refine SOps.st rfl rfl (Yv.move rfl).yl ?_
      refine SOps.st rfl rfl (Yv.indexAddr k el25 rfl rfl rfl (Rd.row (i := 0) rfl) (by omega)).yl ?_
      refine SOps.st rfl rfl (Yv.fieldAddr fld59_1 rfl).yl ?_
      refine SOps.one rfl (One.storeE (i := 0) (k := k) (f := 1) (H' := [_]) (e := ⟨j, j + 1, (nth o k).start, (nth o k).stop, (nth o k).first, (nth o k).last, (nth o k).value⟩) lay3 rfl rfl rfl Notice.len rfl (by decide) (by rw [nth_set_self (by first | omega | (simp; omega))]; rfl) rfl rfl (by first | omega | (simp; omega)) (by first | omega | (simp; omega)) rfl ?_)
      refine SOps.nil ?_
      refine Run.seq ?_
      refine Run.quiet (by intro h; cases h) ?_
      refine QOps.st rfl rfl (Yv.move rfl).yl ?_
      refine QOps.st rfl rfl (Yv.add rfl rfl (by omega)).yl ?_
      refine QOps.st rfl rfl (Yv.assign rfl).yl ?_
      refine QOps.nil ?_
      refine Run.seq ?_
      refine Run.ops ?_
      refine SOps.st rfl rfl (Yv.move rfl).yl ?_
      refine SOps.st rfl rfl (Yv.move rfl).yl ?_
      refine SOps.st rfl rfl (Yv.move rfl).yl ?_
      refine SOps.st rfl rfl (Yv.indexAddr k el25 rfl rfl rfl (Rd.row (i := 0) rfl) (by omega)).yl ?_
      refine SOps.st rfl rfl (Yv.fieldAddr fld59_2 rfl).yl ?_
      refine SOps.one rfl (One.storeE (i := 0) (k := k) (f := 2) (H' := [_]) (e := ⟨j, j + 1, j + 1 + 1, (nth o k).stop, (nth o k).first, (nth o k).last, (nth o k).value⟩) lay3 rfl rfl rfl Notice.len rfl (by decide) (by rw [nth_set_self (by first | omega | (simp; omega))]; rfl) rfl rfl (by first | omega | (simp; omega)) (by first | omega | (simp; omega)) rfl ?_)
      refine SOps.nil ?_
      refine Run.seq ?_
      refine Run.quiet (by intro h; cases h) ?_
      refine QOps.st rfl rfl (Yv.move rfl).yl ?_
      refine QOps.st rfl rfl (Yv.add rfl rfl (by omega)).yl ?_
      refine QOps.st rfl rfl (Yv.assign rfl).yl ?_
      refine QOps.nil ?_
      refine Run.seq ?_
      refine Run.ops ?_
      refine SOps.st rfl rfl (Yv.move rfl).yl ?_
      refine SOps.st rfl rfl (Yv.move rfl).yl ?_
      refine SOps.st rfl rfl (Yv.move rfl).yl ?_
      refine SOps.st rfl rfl (Yv.indexAddr k el25 rfl rfl rfl (Rd.row (i := 0) rfl) (by omega)).yl ?_
      refine SOps.st rfl rfl (Yv.fieldAddr fld59_3 rfl).yl ?_
      refine SOps.one rfl (One.storeE (i := 0) (k := k) (f := 3) (H' := [_]) (e := ⟨j, j + 1, j + 1 + 1, j + 1 + 1 + 1, (nth o k).first, (nth o k).last, (nth o k).value⟩) lay3 rfl rfl rfl Notice.len rfl (by decide) (by rw [nth_set_self (by first | omega | (simp; omega))]; rfl) rfl rfl (by first | omega | (simp; omega)) (by first | omega | (simp; omega)) rfl ?_)
      refine SOps.nil ?_
      refine Run.seq ?_
      refine Run.quiet (by intro h; cases h) ?_
      refine QOps.st rfl rfl (Yv.move rfl).yl ?_
      refine QOps.st rfl rfl (Yv.add rfl rfl (by omega)).yl ?_
      refine QOps.st rfl rfl (Yv.assign rfl).yl ?_
      refine QOps.nil ?_
      refine Run.seq ?_
      refine Run.ops ?_
      refine SOps.st rfl rfl (Yv.move rfl).yl ?_
      refine SOps.st rfl rfl (Yv.move rfl).yl ?_
      refine SOps.st rfl rfl (Yv.move rfl).yl ?_
      refine SOps.st rfl rfl (Yv.indexAddr k el25 rfl rfl rfl (Rd.row (i := 0) rfl) (by omega)).yl ?_
      refine SOps.st rfl rfl (Yv.fieldAddr fld59_4 rfl).yl ?_
      refine SOps.one rfl (One.storeE (i := 0) (k := k) (f := 4) (H' := [_]) (e := ⟨j, j + 1, j + 1 + 1, j + 1 + 1 + 1, j + 1 + 1 + 1 + 1, (nth o k).last, (nth o k).value⟩) lay3 rfl rfl rfl Notice.len rfl (by decide) (by rw [nth_set_self (by first | omega | (simp; omega))]; rfl) rfl rfl (by first | omega | (simp; omega)) (by first | omega | (simp; omega)) rfl ?_)
      refine SOps.nil ?_
      refine Run.seq ?_
      refine Run.quiet (by intro h; cases h) ?_
      refine QOps.st rfl rfl (Yv.move rfl).yl ?_
      refine QOps.st rfl rfl (Yv.add rfl rfl (by omega)).yl ?_
      refine QOps.st rfl rfl (Yv.assign rfl).yl ?_
      refine QOps.nil ?_
      refine Run.seq ?_
      refine Run.ops ?_
      refine SOps.st rfl rfl (Yv.move rfl).yl ?_
      refine SOps.st rfl rfl (Yv.move rfl).yl ?_
      refine SOps.st rfl rfl (Yv.move rfl).yl ?_
      refine SOps.st rfl rfl (Yv.indexAddr k el25 rfl rfl rfl (Rd.row (i := 0) rfl) (by omega)).yl ?_
      refine SOps.st rfl rfl (Yv.fieldAddr fld59_5 rfl).yl ?_
      refine SOps.one rfl (One.storeE (i := 0) (k := k) (f := 5) (H' := [_]) (e := ⟨j, j + 1, j + 1 + 1, j + 1 + 1 + 1, j + 1 + 1 + 1 + 1, j + 1 + 1 + 1 + 1 + 1, (nth o k).value⟩) lay3 rfl rfl rfl Notice.len rfl (by decide) (by rw [nth_set_self (by first | omega | (simp; omega))]; rfl) rfl rfl (by first | omega | (simp; omega)) (by first | omega | (simp; omega)) rfl ?_)
      refine SOps.nil ?_
      refine Run.seq ?_
      refine Run.quiet (by intro h; cases h) ?_
      refine QOps.st rfl rfl (Yv.move rfl).yl ?_
      refine QOps.st rfl rfl (Yv.add rfl rfl (by omega)).yl ?_
      refine QOps.st rfl rfl (Yv.assign rfl).yl ?_
      refine QOps.nil ?_
      refine Run.seq ?_
      refine Run.ops ?_
      refine SOps.st rfl rfl (Yv.move rfl).yl ?_
      refine SOps.st rfl rfl (Yv.move rfl).yl ?_
      refine SOps.st rfl rfl (Yv.move rfl).yl ?_
      refine SOps.st rfl rfl (Yv.indexAddr k el25 rfl rfl rfl (Rd.row (i := 0) rfl) (by omega)).yl ?_
      refine SOps.st rfl rfl (Yv.fieldAddr fld59_6 rfl).yl ?_
      refine SOps.one rfl (One.storeE (i := 0) (k := k) (f := 6) (H' := [_]) (e := ⟨j, j + 1, j + 1 + 1, j + 1 + 1 + 1, j + 1 + 1 + 1 + 1, j + 1 + 1 + 1 + 1 + 1, j + 1 + 1 + 1 + 1 + 1 + 1⟩) lay3 rfl rfl rfl Notice.len rfl (by decide) (by rw [nth_set_self (by first | omega | (simp; omega))]; rfl) rfl rfl (by first | omega | (simp; omega)) (by first | omega | (simp; omega)) rfl ?_)
      refine SOps.nil ?_
      refine Run.quiet (by intro h; cases h) ?_
      refine QOps.st rfl rfl (Yv.move rfl).yl ?_
      refine QOps.st rfl rfl (Yv.add rfl rfl (by omega)).yl ?_
      refine QOps.st rfl rfl (Yv.assign rfl).yl ?_
      refine QOps.nil ?_
      refine Run.quiet (by intro h; cases h) ?_
      refine QOps.st rfl rfl (Yv.move rfl).yl ?_
      refine QOps.st rfl rfl (Yv.succN rfl rfl (by omega)).yl ?_
      refine QOps.st rfl rfl (Yv.assign rfl).yl ?_
      refine QOps.nil ?_
      refine ⟨(k + 1, _, _), ?_, ?_, (SubE.cons rfl (SubE.cons rfl (SubE.cons rfl (SubE.nil _)))), (List.Sublist.refl _)⟩
      · exact ⟨by omega, by simpa using hol, by omega, all_succ (fun i hi => by simp only [List.set_set]; rw [nth_set_ne (by omega)]; exact heq i hi) (by simp only [List.set_set]; rw [nth_set_self (by omega), hj]; simp [Notice.mark]; omega)⟩
      · first | omega | (dsimp only; omega)
    · try replace hc1 := of_decide_eq_false hc1
      refine Run.exit ?_
      refine Run.seq ?_
      refine Run.quiet (by intro h; cases h) ?_
      refine QOps.st rfl rfl (Yv.move rfl).yl ?_
      refine QOps.st rfl rfl (Yv.assign rfl).yl ?_
      refine QOps.nil ?_
      refine Run.ret ?_
      obtain rfl : k = l.length := by omega
      have hoe : o = Notice.marks l.length j0 := eq_of_nth (by rw [hol, Notice.marks_len]) (fun i hi => by rw [Notice.marks_len] at hi; rw [Notice.marks_nth hi]; exact heq i hi)
      subst hoe
      refine retQ.of (.inr rfl) rfl (.tmp rfl .nil) (fun w' hw' => ?_)
      exact ⟨by rw [hj]; rfl, hw'.bel, hw'.ent _ (List.mem_of_getElem? (i := 0) rfl)⟩

/-- The numbers of those of the first k notices that a trip meets. -/
def metTo (ns : List Notice) (a b d : Int) : Nat → List Int
  | 0 => []
  | k + 1 => if meets (nth ns k) a b d = true then metTo ns a b d k ++ [(nth ns k).id] else metTo ns a b d k
theorem metTo_len {ns : List Notice} {a b d : Int} : ∀ {k : Nat}, (metTo ns a b d k).length ≤ k
  | 0 => by simp [metTo]
  | k + 1 => by
    have ih := metTo_len (ns := ns) (a := a) (b := b) (d := d) (k := k)
    rw [metTo]
    split
    · simp; omega
    · omega
def metOf (ns : List Notice) (a b d : Int) : List Int := if asked ns a b d = true then metTo ns a b d ns.length else []
theorem metOf_len {ns : List Notice} {a b d : Int} : (metOf ns a b d).length ≤ ns.length := by
  unfold metOf
  split
  · exact metTo_len
  · simp
theorem NoticesMet_spec {w : World} {A : Option Addr} {c : Nat} {ns : List Notice} {a b d : Int} (hs : Sl w 7 A ns.length c (ns.flatMap Notice.enc)) (hl : ns.length ≤ 1048576) : Calls Try.prog 26 #[.slice A ns.length c, .int .i64 a, .int .i64 b, .int .i64 d] w (RetRow w 3 1 (metOf ns a b d).length ((metOf ns a b d).flatMap intC) (fun v => .tuple #[v, .bool (asked ns a b d)])) := by
  refine calls_of_run (vs := [_, _, _, _]) (L := [(0, _), (1, _), (2, _), (3, _)]) (n := 38) (F := []) (H := []) Try.func26 rfl rfl rfl rfl (HOk.start _) ?_
  refine Run.seq ?_
  refine Run.quiet (by intro h; cases h) ?_
  refine QOps.st rfl rfl (Yv.assign rfl).yl ?_
  refine QOps.st rfl rfl (Yv.assign rfl).yl ?_
  refine QOps.nil ?_
  refine Run.seq ?_
  refine Run.seq ?_
  refine Run.quiet (by intro h; cases h) ?_
  refine QOps.st rfl rfl (Yv.move rfl).yl ?_
  refine QOps.st rfl rfl (Yv.move rfl).yl ?_
  refine QOps.st rfl rfl (Yv.move rfl).yl ?_
  refine QOps.st rfl rfl (Yv.move rfl).yl ?_
  refine QOps.st rfl rfl (Yl.call callable52 (.cons rfl (.cons rfl (.cons rfl (.cons rfl (.nil))))) (fun w' hw' => isTrip_spec ((Rd.arg hs) w' hw'))) ?_
  refine QOps.st rfl rfl (Yv.not rfl).yl ?_
  refine QOps.nil ?_
  refine Run.cond rfl (fun hc1 => ?_) (fun hc1 => ?_)
  · try replace hc1 := of_decide_eq_true hc1
    have hn : asked ns a b d = false := by simpa using hc1
    refine Run.seq ?_
    refine Run.quiet (by intro h; cases h) ?_
    refine QOps.st rfl rfl (Yv.assign rfl).yl ?_
    refine QOps.st rfl rfl (Yv.assign rfl).yl ?_
    refine QOps.nil ?_
    refine Run.ret ?_
    refine retQ.of (.inr rfl) rfl (.tmp rfl (.tmp rfl .nil)) (fun w' hw' => ?_)
    unfold metOf; rw [if_neg (by simp [hn]), hn]; exact ⟨_, _, rfl, hw'.bel.below, ⟨by first | rfl | simp, .inl ⟨rfl, rfl⟩⟩, by simp⟩
  · try replace hc1 := of_decide_eq_false hc1
    have hy : asked ns a b d = true := by simpa using hc1
    have hway := asked_way hy
    refine Run.skip ?_
    refine Run.seq ?_
    refine Run.ops ?_
    refine SOps.one rfl (One.buildSliceG (pv := []) (cs := []) (fun _ => []) rfl el36 .nil rfl rfl (by kernel_rfl) rfl rfl (fun b1 => ?_))
    refine SOps.st rfl rfl (Yv.assign rfl).yl ?_
    refine SOps.nil ?_
    refine Run.seq ?_
    refine Run.seq ?_
    refine Run.quiet (by intro h; cases h) ?_
    refine QOps.st rfl rfl (Yv.move rfl).yl ?_
    refine QOps.st rfl rfl (Yv.lenS el25s rfl).yl ?_
    refine QOps.st rfl rfl (Yv.move rfl).yl ?_
    refine QOps.nil ?_
    refine Run.block ?_
    refine Run.loop (S := Nat × List Int × Option Addr × Nat) (fun s => match s with | (k, o, A2, c2) => k ≤ ns.length ∧ o.length ≤ k ∧ o = metTo ns a b d k) (fun s => match s with | (k, o, A2, c2) => [(20, .slice A ns.length c), (21, .int .i64 (ns.length : Int)), (22, .int .i64 (k : Int)), (1, .int .i64 a), (2, .int .i64 b), (3, .int .i64 d), (10, .slice A2 o.length c2)]) (fun s => match s with | (k, o, A2, c2) => [.row A2 c2 3 1 o.length (o.flatMap intC)]) (fun s => match s with | (k, o, A2, c2) => ns.length - k) (0, [], some ⟨b1, 0, none⟩, 0) ?_ (SubE.cons rfl (SubE.cons rfl (SubE.cons rfl (SubE.cons rfl (SubE.cons rfl (SubE.cons rfl (SubE.cons rfl (SubE.nil _)))))))) (List.Sublist.refl _) ?_
    · exact ⟨by omega, by simp, rfl⟩
    · rintro ⟨k, o, A2, c2⟩ ⟨hk, hol, ho⟩
      show Run _ _ _ _ _ [(20, .slice A ns.length c), (21, .int .i64 (ns.length : Int)), (22, .int .i64 (k : Int)), (1, .int .i64 a), (2, .int .i64 b), (3, .int .i64 d), (10, .slice A2 o.length c2)] [.row A2 c2 3 1 o.length (o.flatMap intC)] _
      refine Run.seq ?_
      refine Run.quiet (by intro h; cases h) ?_
      refine QOps.st rfl rfl (Yv.lss rfl rfl).yl ?_
      refine QOps.nil ?_
      refine Run.seq ?_
      refine Run.cond rfl (fun hc2 => ?_) (fun hc2 => ?_)
      · try replace hc2 := of_decide_eq_true hc2
        refine Run.skip ?_
        refine Run.seq ?_
        refine Run.block ?_
        refine Run.seq ?_
        refine Run.ops ?_
        refine SOps.st rfl rfl (Yv.indexAddr k el25 rfl rfl rfl (Rd.arg hs) (by omega)).yl ?_
        refine SOps.st rfl rfl (Yv.loadEs lay59 rfl Notice.len (Rd.arg hs) (by first | omega | (simp; omega)) (by decide)).yl ?_
        refine SOps.one rfl (One.alloc rfl zero59 (fun b2 => ?_))
        refine SOps.one rfl (One.store (i := 0) (off := 0) (vs := [_, _, _, _, _, _, _]) (cs' := [_, _, _, _, _, _, _]) (H' := [_, _]) lay59 rfl rfl rfl rfl rfl rfl rfl rfl rfl rfl ?_)
        refine SOps.nil ?_
        refine Run.seq ?_
        refine Run.quiet (by intro h; cases h) ?_
        refine QOps.st rfl rfl (Yv.loadBs (i := 0) lay59 rfl rfl rfl rfl).yl ?_
        refine QOps.st rfl rfl (Yv.move rfl).yl ?_
        refine QOps.st rfl rfl (Yv.move rfl).yl ?_
        refine QOps.st rfl rfl (Yv.move rfl).yl ?_
        refine QOps.st rfl rfl (Yl.call callable60 (.cons rfl (.cons rfl (.cons rfl (.cons rfl (.nil))))) (fun w' hw' => meets_spec (by first | assumption | exact hway k (by omega)))) ?_
        refine QOps.nil ?_
        refine Run.cond rfl (fun hc3 => ?_) (fun hc3 => ?_)
        · try replace hc3 := of_decide_eq_true hc3
          refine Run.ops ?_
          refine SOps.st rfl rfl (Yv.move rfl).yl ?_
          refine SOps.st rfl rfl (Yv.fieldAddr fld59_0 rfl).yl ?_
          refine SOps.st rfl rfl (Yv.loadB (i := 0) lay3 rfl rfl rfl rfl).yl ?_
          refine SOps.one rfl (One.buildSliceG (pv := [(0, _)]) (cs := [_]) (fun l => match l with | [a0_0] => [a0_0] | _ => []) rfl el36 (.cons rfl (.nil)) rfl rfl (by kernel_rfl) rfl rfl (fun b3 => ?_))
          refine SOps.one rfl (One.append (enc := intC) (l := o) (l2 := [(nth ns k).id]) (m' := (o ++ [(nth ns k).id]).length) (i := 2) (H' := fun A c => [_, _, _]) rfl el36 zero3 rfl (by decide) rfl rfl rfl (Rd.row (i := 0) rfl) (fun _ => rfl) (by simp) (by simp; omega) (by simp; omega) (fun _ _ => rfl) (fun A1 c1 => ?_))
          refine SOps.st rfl rfl (Yv.assign rfl).yl ?_
          refine SOps.nil ?_
          refine Run.quiet (by intro h; cases h) ?_
          refine QOps.st rfl rfl (Yv.succN rfl rfl (by omega)).yl ?_
          refine QOps.st rfl rfl (Yv.move rfl).yl ?_
          refine QOps.nil ?_
          refine ⟨(k + 1, _, _, _), ?_, ?_, (SubE.cons rfl (SubE.cons rfl (SubE.cons rfl (SubE.cons rfl (SubE.cons rfl (SubE.cons rfl (SubE.cons rfl (SubE.nil _)))))))), (List.Sublist.cons _ (List.Sublist.cons _ (List.Sublist.refl _)))⟩
          · exact ⟨by omega, by simp; omega, by rw [metTo, if_pos hc3, ho]⟩
          · first | omega | (dsimp only; omega)
        · try replace hc3 := of_decide_eq_false hc3
          refine Run.skip ?_
          refine Run.quiet (by intro h; cases h) ?_
          refine QOps.st rfl rfl (Yv.succN rfl rfl (by omega)).yl ?_
          refine QOps.st rfl rfl (Yv.move rfl).yl ?_
          refine QOps.nil ?_
          refine ⟨(k + 1, o, A2, c2), ?_, ?_, (SubE.cons rfl (SubE.cons rfl (SubE.cons rfl (SubE.cons rfl (SubE.cons rfl (SubE.cons rfl (SubE.cons rfl (SubE.nil _)))))))), (List.Sublist.cons _ (List.Sublist.refl _))⟩
          · exact ⟨by omega, by omega, by rw [metTo, if_neg (by rw [hc3]; simp), ho]⟩
          · first | omega | (dsimp only; omega)
      · try replace hc2 := of_decide_eq_false hc2
        refine Run.exit ?_
        refine Run.seq ?_
        refine Run.quiet (by intro h; cases h) ?_
        refine QOps.st rfl rfl (Yv.move rfl).yl ?_
        refine QOps.st rfl rfl (Yv.assign rfl).yl ?_
        refine QOps.st rfl rfl (Yv.assign rfl).yl ?_
        refine QOps.nil ?_
        refine Run.ret ?_
        obtain rfl : k = ns.length := by omega
        subst ho
        refine retQ.of (.inr rfl) rfl (.tmp rfl (.tmp rfl .nil)) (fun w' hw' => ?_)
        unfold metOf; rw [if_pos hy, hy]; exact ⟨_, _, rfl, hw'.bel.below, hw'.ent _ (List.mem_of_getElem? (i := 0) rfl), fun g hg => (hw'.own _ (List.mem_of_getElem? (i := 0) rfl) g hg).elim id (by simp)⟩

theorem sNoticesMet_spec {w : World} {A : Option Addr} {c : Nat} {ns : List Notice} {a b d : Int} (hs : Sl w 7 A ns.length c (ns.flatMap Notice.enc)) (hl : ns.length ≤ 1048576) : Calls Try.prog 25 #[.slice A ns.length c, .int .i64 a, .int .i64 b, .int .i64 d] w (RetRow w 3 1 (metOf ns a b d).length ((metOf ns a b d).flatMap intC) (fun v => .tuple #[v, .bool (asked ns a b d)])) := by
  refine calls_of_run (vs := [_, _, _, _]) (L := [(0, _), (1, _), (2, _), (3, _)]) (n := 43) (F := []) (H := []) Try.func25 rfl rfl rfl rfl (HOk.start _) ?_
  refine Run.seq ?_
  refine Run.quiet (by intro h; cases h) ?_
  refine QOps.st rfl rfl (Yv.assign rfl).yl ?_
  refine QOps.st rfl rfl (Yv.assign rfl).yl ?_
  refine QOps.nil ?_
  refine Run.seq ?_
  refine Run.ops ?_
  refine SOps.one rfl (One.buildSliceG (pv := []) (cs := []) (fun _ => []) rfl el36 .nil rfl rfl (by kernel_rfl) rfl rfl (fun b1 => ?_))
  refine SOps.st rfl rfl (Yv.assign rfl).yl ?_
  refine SOps.nil ?_
  refine Run.seq ?_
  refine Run.seq ?_
  refine Run.quiet (by intro h; cases h) ?_
  refine QOps.st rfl rfl (Yv.move rfl).yl ?_
  refine QOps.st rfl rfl (Yv.move rfl).yl ?_
  refine QOps.st rfl rfl (Yv.move rfl).yl ?_
  refine QOps.st rfl rfl (Yv.move rfl).yl ?_
  refine QOps.st rfl rfl (Yl.call callable49 (.cons rfl (.cons rfl (.cons rfl (.cons rfl (.nil))))) (fun w' hw' => l22Asked_spec ((Rd.arg hs) w' hw'))) ?_
  refine QOps.st rfl rfl (Yv.not rfl).yl ?_
  refine QOps.nil ?_
  refine Run.cond rfl (fun hc1 => ?_) (fun hc1 => ?_)
  · try replace hc1 := of_decide_eq_true hc1
    have hn : asked ns a b d = false := by simpa using hc1
    refine Run.seq ?_
    refine Run.quiet (by intro h; cases h) ?_
    refine QOps.st rfl rfl (Yv.move rfl).yl ?_
    refine QOps.st rfl rfl (Yv.assign rfl).yl ?_
    refine QOps.st rfl rfl (Yv.assign rfl).yl ?_
    refine QOps.nil ?_
    refine Run.ret ?_
    refine retQ.of (.inr rfl) rfl (.tmp rfl (.tmp rfl .nil)) (fun w' hw' => ?_)
    unfold metOf; rw [if_neg (by simp [hn]), hn]; exact ⟨_, _, rfl, hw'.bel.below, hw'.ent _ (List.mem_of_getElem? (i := 0) rfl), fun g hg => (hw'.own _ (List.mem_of_getElem? (i := 0) rfl) g hg).elim id (by simp)⟩
  · try replace hc1 := of_decide_eq_false hc1
    have hy : asked ns a b d = true := by simpa using hc1
    have hway := asked_way hy
    refine Run.skip ?_
    refine Run.seq ?_
    refine Run.seq ?_
    refine Run.quiet (by intro h; cases h) ?_
    refine QOps.st rfl rfl (Yv.assign rfl).yl ?_
    refine QOps.nil ?_
    refine Run.block ?_
    refine Run.loop (S := Nat × List Int × Option Addr × Nat) (fun s => match s with | (k, o, A2, c2) => k ≤ ns.length ∧ o.length ≤ k ∧ o = metTo ns a b d k) (fun s => match s with | (k, o, A2, c2) => [(0, .slice A ns.length c), (11, .int .i64 (k : Int)), (1, .int .i64 a), (2, .int .i64 b), (3, .int .i64 d), (10, .slice A2 o.length c2)]) (fun s => match s with | (k, o, A2, c2) => [.row A2 c2 3 1 o.length (o.flatMap intC)]) (fun s => match s with | (k, o, A2, c2) => ns.length - k) (0, [], some ⟨b1, 0, none⟩, 0) ?_ (SubE.cons rfl (SubE.cons rfl (SubE.cons rfl (SubE.cons rfl (SubE.cons rfl (SubE.cons rfl (SubE.nil _))))))) (List.Sublist.refl _) ?_
    · exact ⟨by omega, by simp, rfl⟩
    · rintro ⟨k, o, A2, c2⟩ ⟨hk, hol, ho⟩
      show Run _ _ _ _ _ [(0, .slice A ns.length c), (11, .int .i64 (k : Int)), (1, .int .i64 a), (2, .int .i64 b), (3, .int .i64 d), (10, .slice A2 o.length c2)] [.row A2 c2 3 1 o.length (o.flatMap intC)] _
      refine Run.seq ?_
      refine Run.seq ?_
      refine Run.quiet (by intro h; cases h) ?_
      refine QOps.st rfl rfl (Yv.move rfl).yl ?_
      refine QOps.st rfl rfl (Yv.move rfl).yl ?_
      refine QOps.st rfl rfl (Yv.lenS el25s rfl).yl ?_
      refine QOps.st rfl rfl (Yv.lss rfl rfl).yl ?_
      refine QOps.nil ?_
      refine Run.cond rfl (fun hc2 => ?_) (fun hc2 => ?_)
      · try replace hc2 := of_decide_eq_true hc2
        refine Run.skip ?_
        refine Run.seq ?_
        refine Run.block ?_
        refine Run.seq ?_
        refine Run.quiet (by intro h; cases h) ?_
        refine QOps.st rfl rfl (Yv.move rfl).yl ?_
        refine QOps.st rfl rfl (Yv.move rfl).yl ?_
        refine QOps.st rfl rfl (Yv.indexAddr k el25 rfl rfl rfl (Rd.arg hs) (by omega)).yl ?_
        refine QOps.st rfl rfl (Yv.loadEs lay59 rfl Notice.len (Rd.arg hs) (by first | omega | (simp; omega)) (by decide)).yl ?_
        refine QOps.st rfl rfl (Yv.move rfl).yl ?_
        refine QOps.st rfl rfl (Yv.move rfl).yl ?_
        refine QOps.st rfl rfl (Yv.move rfl).yl ?_
        refine QOps.st rfl rfl (Yl.call callable59 (.cons rfl (.cons rfl (.cons rfl (.cons rfl (.nil))))) (fun w' hw' => l22Meets_spec)) ?_
        refine QOps.nil ?_
        refine Run.cond rfl (fun hc3 => ?_) (fun hc3 => ?_)
        · try replace hc3 := of_decide_eq_true hc3
          refine Run.ops ?_
          refine SOps.st rfl rfl (Yv.move rfl).yl ?_
          refine SOps.st rfl rfl (Yv.move rfl).yl ?_
          refine SOps.st rfl rfl (Yv.move rfl).yl ?_
          refine SOps.st rfl rfl (Yv.indexAddr k el25 rfl rfl rfl (Rd.arg hs) (by omega)).yl ?_
          refine SOps.st rfl rfl (Yv.fieldAddr fld59_0 rfl).yl ?_
          refine SOps.st rfl rfl (Yv.loadF lay3 rfl Notice.len (Rd.arg hs) (by first | omega | (simp; omega)) (by decide) rfl).yl ?_
          refine SOps.one rfl (One.buildSliceG (pv := [(0, _)]) (cs := [_]) (fun l => match l with | [a0_0] => [a0_0] | _ => []) rfl el36 (.cons rfl (.nil)) rfl rfl (by kernel_rfl) rfl rfl (fun b2 => ?_))
          refine SOps.one rfl (One.append (enc := intC) (l := o) (l2 := [(nth ns k).id]) (m' := (o ++ [(nth ns k).id]).length) (i := 1) (H' := fun A c => [_, _]) rfl el36 zero3 rfl (by decide) rfl rfl rfl (Rd.row (i := 0) rfl) (fun _ => rfl) (by simp) (by simp; omega) (by simp; omega) (fun _ _ => rfl) (fun A1 c1 => ?_))
          refine SOps.st rfl rfl (Yv.assign rfl).yl ?_
          refine SOps.nil ?_
          refine Run.quiet (by intro h; cases h) ?_
          refine QOps.st rfl rfl (Yv.move rfl).yl ?_
          refine QOps.st rfl rfl (Yv.succN rfl rfl (by omega)).yl ?_
          refine QOps.st rfl rfl (Yv.assign rfl).yl ?_
          refine QOps.nil ?_
          refine ⟨(k + 1, _, _, _), ?_, ?_, (SubE.cons rfl (SubE.cons rfl (SubE.cons rfl (SubE.cons rfl (SubE.cons rfl (SubE.cons rfl (SubE.nil _))))))), (List.Sublist.cons _ (List.Sublist.refl _))⟩
          · exact ⟨by omega, by simp; omega, by rw [metTo, if_pos hc3, ho]⟩
          · first | omega | (dsimp only; omega)
        · try replace hc3 := of_decide_eq_false hc3
          refine Run.skip ?_
          refine Run.quiet (by intro h; cases h) ?_
          refine QOps.st rfl rfl (Yv.move rfl).yl ?_
          refine QOps.st rfl rfl (Yv.succN rfl rfl (by omega)).yl ?_
          refine QOps.st rfl rfl (Yv.assign rfl).yl ?_
          refine QOps.nil ?_
          refine ⟨(k + 1, o, A2, c2), ?_, ?_, (SubE.cons rfl (SubE.cons rfl (SubE.cons rfl (SubE.cons rfl (SubE.cons rfl (SubE.cons rfl (SubE.nil _))))))), (List.Sublist.refl _)⟩
          · exact ⟨by omega, by omega, by rw [metTo, if_neg (by rw [hc3]; simp), ho]⟩
          · first | omega | (dsimp only; omega)
      · try replace hc2 := of_decide_eq_false hc2
        refine Run.exit ?_
        refine Run.seq ?_
        refine Run.quiet (by intro h; cases h) ?_
        refine QOps.st rfl rfl (Yv.move rfl).yl ?_
        refine QOps.st rfl rfl (Yv.assign rfl).yl ?_
        refine QOps.st rfl rfl (Yv.assign rfl).yl ?_
        refine QOps.nil ?_
        refine Run.ret ?_
        obtain rfl : k = ns.length := by omega
        subst ho
        refine retQ.of (.inr rfl) rfl (.tmp rfl (.tmp rfl .nil)) (fun w' hw' => ?_)
        unfold metOf; rw [if_pos hy, hy]; exact ⟨_, _, rfl, hw'.bel.below, hw'.ent _ (List.mem_of_getElem? (i := 0) rfl), fun g hg => (hw'.own _ (List.mem_of_getElem? (i := 0) rfl) g hg).elim id (by simp)⟩

theorem FnExactNoticesMet_spec {w : World} {A : Option Addr} {c : Nat} {ns : List Notice} {a b d : Int} (hs : Sl w 7 A ns.length c (ns.flatMap Notice.enc)) (hb : 56 * ns.length ≤ 281474976710656) :
    Calls Try.prog 8 #[.slice A ns.length c, .int .i64 a, .int .i64 b, .int .i64 d] w (RetB w (.bool true)) := by
  have hgl := metOf_len (ns := ns) (a := a) (b := b) (d := d)
  refine calls_of_run (vs := [_, _, _, _]) (L := [(0, _), (1, _), (2, _), (3, _)]) (n := 111) (F := []) (H := []) Try.func8 rfl rfl rfl rfl (HOk.start _) ?_
  refine Run.seq ?_
  refine Run.quiet (by intro h; cases h) ?_
  refine QOps.st rfl rfl (Yv.assign rfl).yl ?_
  refine QOps.nil ?_
  refine Run.seq ?_
  refine Run.quiet (by intro h; cases h) ?_
  refine QOps.st rfl rfl (Yv.assign rfl).yl ?_
  refine QOps.nil ?_
  refine Run.seq ?_
  refine Run.quiet (by intro h; cases h) ?_
  refine QOps.st rfl rfl (Yv.move rfl).yl ?_
  refine QOps.st rfl rfl (Yv.move rfl).yl ?_
  refine QOps.st rfl rfl (Yl.call callable12 (.cons rfl (.cons rfl (.nil))) (fun w' hw' => szNoticeS_spec (by omega) (by omega) (by omega))) ?_
  refine QOps.st rfl rfl (Yv.assign rfl).yl ?_
  refine QOps.nil ?_
  refine Run.seq ?_
  refine Run.seq ?_
  refine Run.quiet (by intro h; cases h) ?_
  refine QOps.st rfl rfl (Yv.move rfl).yl ?_
  refine QOps.st rfl rfl (Yv.lss rfl rfl).yl ?_
  refine QOps.nil ?_
  refine Run.cond rfl (fun hc1 => ?_) (fun hc1 => ?_)
  · try replace hc1 := of_decide_eq_true hc1
    refine Run.seq ?_
    refine Run.quiet (by intro h; cases h) ?_
    refine QOps.st rfl rfl (Yv.assign rfl).yl ?_
    refine QOps.nil ?_
    refine Run.ret ?_
    refine retQ.of (.inr rfl) rfl (.tmp rfl .nil) (fun w' hw' => ?_)
    refine ⟨?_, hw'.bel.below⟩
    exact rfl
  · try replace hc1 := of_decide_eq_false hc1
    have hn1 : ns.length ≤ 1048576 := by split at hc1 <;> omega
    refine Run.skip ?_
    refine Run.seq ?_
    refine Run.ops ?_
    refine SOps.st rfl rfl (Yv.move rfl).yl ?_
    refine SOps.one rfl (One.callRow rfl callable14 (.cons rfl (.nil)) (fun w' hw' => toNoticeS_spec ((Rd.arg hs) w' hw') (by omega)) (fun A1 c1 => ?_))
    refine SOps.st rfl rfl (Yv.move rfl).yl ?_
    refine SOps.st rfl rfl (Yv.move rfl).yl ?_
    refine SOps.st rfl rfl (Yv.move rfl).yl ?_
    refine SOps.one rfl (One.callRow rfl callable25 (.cons rfl (.cons rfl (.cons rfl (.cons rfl (.nil))))) (fun w' hw' => sNoticesMet_spec ((Rd.row (i := 0) rfl) w' hw') (by omega)) (fun A2 c2 => ?_))
    refine SOps.st rfl rfl (Yv.move rfl).yl ?_
    refine SOps.st rfl rfl (Yv.extract rfl rfl).yl ?_
    refine SOps.st rfl rfl (Yv.extract rfl rfl).yl ?_
    refine SOps.st rfl rfl (Yv.assign rfl).yl ?_
    refine SOps.st rfl rfl (Yv.assign rfl).yl ?_
    refine SOps.nil ?_
    refine Run.seq ?_
    refine Run.ops ?_
    refine SOps.st rfl rfl (Yv.move rfl).yl ?_
    refine SOps.one rfl (One.callRow rfl callable14 (.cons rfl (.nil)) (fun w' hw' => toNoticeS_spec ((Rd.arg hs) w' hw') (by omega)) (fun A3 c3 => ?_))
    refine SOps.st rfl rfl (Yv.assign rfl).yl ?_
    refine SOps.nil ?_
    refine Run.seq ?_
    refine Run.ops ?_
    refine SOps.st rfl rfl (Yv.move rfl).yl ?_
    refine SOps.st rfl rfl (Yv.move rfl).yl ?_
    refine SOps.st rfl rfl (Yv.move rfl).yl ?_
    refine SOps.st rfl rfl (Yv.move rfl).yl ?_
    refine SOps.one rfl (One.callRow rfl callable26 (.cons rfl (.cons rfl (.cons rfl (.cons rfl (.nil))))) (fun w' hw' => NoticesMet_spec ((Rd.row (i := 0) rfl) w' hw') (by omega)) (fun A4 c4 => ?_))
    refine SOps.st rfl rfl (Yv.move rfl).yl ?_
    refine SOps.st rfl rfl (Yv.extract rfl rfl).yl ?_
    refine SOps.st rfl rfl (Yv.extract rfl rfl).yl ?_
    refine SOps.st rfl rfl (Yv.assign rfl).yl ?_
    refine SOps.st rfl rfl (Yv.assign rfl).yl ?_
    refine SOps.nil ?_
    refine Run.seq ?_
    refine Run.seq ?_
    refine Run.quiet (by intro h; cases h) ?_
    refine QOps.st rfl rfl (Yv.move rfl).yl ?_
    refine QOps.st rfl rfl (Yv.move rfl).yl ?_
    refine QOps.st rfl rfl (Yl.call callable27 (.cons rfl (.cons rfl (.nil))) (fun w' hw' => eqIntS_spec ((Rd.row (i := 0) rfl) w' hw') ((Rd.row (i := 2) rfl) w' hw'))) ?_
    refine QOps.st rfl rfl (Yv.not rfl).yl ?_
    refine QOps.st rfl rfl (Yv.move rfl).yl ?_
    refine' QOps.or [_, _, _] _ (.tmp 51) rfl rfl rfl rfl rfl rfl (fun hg1 => ?_) ?_
    rotate_left
    · try replace hg1 := of_decide_eq_false hg1
      refine QOps.st rfl rfl (Yv.move rfl).yl ?_
      refine QOps.st rfl rfl (Yv.move rfl).yl ?_
      refine QOps.st rfl rfl (Yv.neB bool4 rfl rfl).yl ?_
      exact QOps.nil rfl
    refine QOps.nil ?_
    refine Run.cond rfl (fun hc2 => ?_) (fun hc2 => ?_)
    · exfalso
      first | (simp at hc2; done) | (simp at hc2; omega)
    · try replace hc2 := of_decide_eq_false hc2
      refine Run.skip ?_
      refine Run.seq ?_
      refine Run.seq ?_
      refine Run.ops ?_
      refine SOps.st rfl rfl (Yv.move rfl).yl ?_
      refine SOps.st rfl rfl (Yv.move rfl).yl ?_
      refine SOps.one rfl (One.callRow rfl callable14 (.cons rfl (.nil)) (fun w' hw' => toNoticeS_spec ((Rd.arg hs) w' hw') (by omega)) (fun A5 c5 => ?_))
      refine SOps.st rfl rfl (Yl.call callable16 (.cons rfl (.cons rfl (.nil))) (fun w' hw' => eqNoticeS_spec ((Rd.row (i := 2) rfl) w' hw') ((Rd.row (i := 0) rfl) w' hw'))) ?_
      refine SOps.st rfl rfl (Yv.not rfl).yl ?_
      refine SOps.nil ?_
      refine Run.cond rfl (fun hc3 => ?_) (fun hc3 => ?_)
      · exfalso
        first | (simp at hc3; done) | (simp at hc3; omega)
      · try replace hc3 := of_decide_eq_false hc3
        refine Run.skip ?_
        refine Run.seq ?_
        refine Run.quiet (by intro h; cases h) ?_
        refine QOps.st rfl rfl (Yv.assign rfl).yl ?_
        refine QOps.nil ?_
        refine Run.seq ?_
        refine Run.ops ?_
        refine SOps.st rfl rfl (Yv.move rfl).yl ?_
        refine SOps.st rfl rfl (Yv.move rfl).yl ?_
        refine SOps.one rfl (One.callMut (i := 2) (H' := [_, _, _, _, _]) rfl callable28 (.cons rfl (.cons rfl (.nil))) rfl (fun w' hw' => markNoticeS_spec (hw'.ent _ (List.mem_of_getElem? (i := 2) rfl)) (by omega) (by omega) (by omega)) rfl ?_)
        refine SOps.st rfl rfl (Yv.assign rfl).yl ?_
        refine SOps.nil ?_
        refine Run.seq ?_
        refine Run.seq ?_
        refine Run.quiet (by intro h; cases h) ?_
        refine QOps.st rfl rfl (Yv.move rfl).yl ?_
        refine QOps.st rfl rfl (Yv.lss rfl rfl).yl ?_
        refine QOps.st rfl rfl (Yv.move rfl).yl ?_
        refine' QOps.or [_, _, _, _] _ (.tmp 67) rfl rfl rfl rfl rfl rfl (fun hg2 => ?_) ?_
        rotate_left
        · try replace hg2 := of_decide_eq_false hg2
          refine QOps.st rfl rfl (Yv.move rfl).yl ?_
          refine QOps.st rfl rfl (Yv.move rfl).yl ?_
          refine QOps.st rfl rfl (Yl.call callable27 (.cons rfl (.cons rfl (.nil))) (fun w' hw' => eqIntS_spec ((Rd.row (i := 1) rfl) w' hw') ((Rd.row (i := 3) rfl) w' hw'))) ?_
          refine QOps.st rfl rfl (Yv.not rfl).yl ?_
          exact QOps.nil rfl
        refine QOps.st rfl rfl (Yv.move rfl).yl ?_
        refine' QOps.or [_, _, _] _ (.tmp 72) rfl rfl rfl rfl rfl rfl (fun hg3 => ?_) ?_
        rotate_left
        · try replace hg3 := of_decide_eq_false hg3
          refine QOps.st rfl rfl (Yv.move rfl).yl ?_
          refine QOps.st rfl rfl (Yv.move rfl).yl ?_
          refine QOps.st rfl rfl (Yv.neB bool4 rfl rfl).yl ?_
          exact QOps.nil rfl
        refine QOps.nil ?_
        refine Run.cond rfl (fun hc4 => ?_) (fun hc4 => ?_)
        · exfalso
          first | (simp at hc4; done) | (simp at hc4; omega)
        · try replace hc4 := of_decide_eq_false hc4
          refine Run.skip ?_
          refine Run.seq ?_
          refine Run.quiet (by intro h; cases h) ?_
          refine QOps.st rfl rfl (Yv.assign rfl).yl ?_
          refine QOps.nil ?_
          refine Run.seq ?_
          refine Run.ops ?_
          refine SOps.st rfl rfl (Yv.move rfl).yl ?_
          refine SOps.st rfl rfl (Yv.move rfl).yl ?_
          refine SOps.one rfl (One.callMut (i := 1) (H' := [_, _, _, _, _]) rfl callable29 (.cons rfl (.cons rfl (.nil))) rfl (fun w' hw' => markIntS_spec (hw'.ent _ (List.mem_of_getElem? (i := 1) rfl)) (by omega) (by omega) (by omega)) rfl ?_)
          refine SOps.st rfl rfl (Yv.assign rfl).yl ?_
          refine SOps.nil ?_
          refine Run.seq ?_
          refine Run.quiet (by intro h; cases h) ?_
          refine QOps.st rfl rfl (Yv.assign rfl).yl ?_
          refine QOps.nil ?_
          refine Run.seq ?_
          refine Run.quiet (by intro h; cases h) ?_
          refine QOps.st rfl rfl (Yv.move rfl).yl ?_
          refine QOps.st rfl rfl (Yv.move rfl).yl ?_
          refine QOps.st rfl rfl (Yl.call callable30 (.cons rfl (.cons rfl (.nil))) (fun w' hw' => heldIntS_spec ((Rd.row (i := 1) rfl) w' hw') (by omega) (by omega) (by omega))) ?_
          refine QOps.st rfl rfl (Yv.assign rfl).yl ?_
          refine QOps.nil ?_
          refine Run.seq ?_
          refine Run.seq ?_
          refine Run.quiet (by intro h; cases h) ?_
          refine QOps.st rfl rfl (Yv.move rfl).yl ?_
          refine QOps.st rfl rfl (Yv.lss rfl rfl).yl ?_
          refine QOps.nil ?_
          refine Run.cond rfl (fun hc5 => ?_) (fun hc5 => ?_)
          · exfalso
            first | (simp at hc5; done) | (simp at hc5; omega)
          · try replace hc5 := of_decide_eq_false hc5
            refine Run.skip ?_
            refine Run.seq ?_
            refine Run.seq ?_
            refine Run.quiet (by intro h; cases h) ?_
            refine QOps.st rfl rfl (Yv.move rfl).yl ?_
            refine QOps.st rfl rfl (Yv.move rfl).yl ?_
            refine QOps.st rfl rfl (Yv.neI rfl rfl).yl ?_
            refine QOps.nil ?_
            refine Run.cond rfl (fun hc6 => ?_) (fun hc6 => ?_)
            · exfalso
              first | (simp at hc6; done) | (simp at hc6; omega)
            · try replace hc6 := of_decide_eq_false hc6
              refine Run.skip ?_
              refine Run.seq ?_
              refine Run.ops ?_
              refine SOps.st rfl rfl (Yv.move rfl).yl ?_
              refine SOps.one rfl (One.callRow rfl callable14 (.cons rfl (.nil)) (fun w' hw' => toNoticeS_spec ((Rd.arg hs) w' hw') (by omega)) (fun A6 c6 => ?_))
              refine SOps.st rfl rfl (Yv.move rfl).yl ?_
              refine SOps.st rfl rfl (Yv.move rfl).yl ?_
              refine SOps.st rfl rfl (Yv.move rfl).yl ?_
              refine SOps.one rfl (One.callRow rfl callable26 (.cons rfl (.cons rfl (.cons rfl (.cons rfl (.nil))))) (fun w' hw' => NoticesMet_spec ((Rd.row (i := 0) rfl) w' hw') (by omega)) (fun A7 c7 => ?_))
              refine SOps.st rfl rfl (Yv.move rfl).yl ?_
              refine SOps.st rfl rfl (Yv.extract rfl rfl).yl ?_
              refine SOps.st rfl rfl (Yv.extract rfl rfl).yl ?_
              refine SOps.st rfl rfl (Yv.assign rfl).yl ?_
              refine SOps.st rfl rfl (Yv.assign rfl).yl ?_
              refine SOps.nil ?_
              refine Run.seq ?_
              refine Run.seq ?_
              refine Run.quiet (by intro h; cases h) ?_
              refine QOps.st rfl rfl (Yv.move rfl).yl ?_
              refine QOps.st rfl rfl (Yv.move rfl).yl ?_
              refine QOps.st rfl rfl (Yl.call callable27 (.cons rfl (.cons rfl (.nil))) (fun w' hw' => eqIntS_spec ((Rd.row (i := 0) rfl) w' hw') ((Rd.row (i := 5) rfl) w' hw'))) ?_
              refine QOps.st rfl rfl (Yv.not rfl).yl ?_
              refine QOps.st rfl rfl (Yv.move rfl).yl ?_
              refine' QOps.or [_, _, _] _ (.tmp 101) rfl rfl rfl rfl rfl rfl (fun hg4 => ?_) ?_
              rotate_left
              · try replace hg4 := of_decide_eq_false hg4
                refine QOps.st rfl rfl (Yv.move rfl).yl ?_
                refine QOps.st rfl rfl (Yv.move rfl).yl ?_
                refine QOps.st rfl rfl (Yv.neB bool4 rfl rfl).yl ?_
                exact QOps.nil rfl
              refine QOps.nil ?_
              refine Run.cond rfl (fun hc7 => ?_) (fun hc7 => ?_)
              · exfalso
                first | (simp at hc7; done) | (simp at hc7; omega)
              · try replace hc7 := of_decide_eq_false hc7
                refine Run.skip ?_
                refine Run.seq ?_
                refine Run.quiet (by intro h; cases h) ?_
                refine QOps.st rfl rfl (Yv.assign rfl).yl ?_
                refine QOps.nil ?_
                refine Run.seq ?_
                refine Run.quiet (by intro h; cases h) ?_
                refine QOps.st rfl rfl (Yv.move rfl).yl ?_
                refine QOps.st rfl rfl (Yv.move rfl).yl ?_
                refine QOps.st rfl rfl (Yl.call callable30 (.cons rfl (.cons rfl (.nil))) (fun w' hw' => heldIntS_spec ((Rd.row (i := 3) rfl) w' hw') (by omega) (by omega) (by omega))) ?_
                refine QOps.st rfl rfl (Yv.assign rfl).yl ?_
                refine QOps.nil ?_
                refine Run.seq ?_
                refine Run.seq ?_
                refine Run.quiet (by intro h; cases h) ?_
                refine QOps.st rfl rfl (Yv.move rfl).yl ?_
                refine QOps.st rfl rfl (Yv.lss rfl rfl).yl ?_
                refine QOps.nil ?_
                refine Run.cond rfl (fun hc8 => ?_) (fun hc8 => ?_)
                · exfalso
                  first | (simp at hc8; done) | (simp at hc8; omega)
                · try replace hc8 := of_decide_eq_false hc8
                  refine Run.skip ?_
                  refine Run.seq ?_
                  refine Run.seq ?_
                  refine Run.quiet (by intro h; cases h) ?_
                  refine QOps.st rfl rfl (Yv.move rfl).yl ?_
                  refine QOps.st rfl rfl (Yv.move rfl).yl ?_
                  refine QOps.st rfl rfl (Yv.neI rfl rfl).yl ?_
                  refine QOps.nil ?_
                  refine Run.cond rfl (fun hc9 => ?_) (fun hc9 => ?_)
                  · exfalso
                    first | (simp at hc9; done) | (simp at hc9; omega)
                  · try replace hc9 := of_decide_eq_false hc9
                    refine Run.skip ?_
                    refine Run.seq ?_
                    refine Run.quiet (by intro h; cases h) ?_
                    refine QOps.st rfl rfl (Yv.assign rfl).yl ?_
                    refine QOps.nil ?_
                    refine Run.ret ?_
                    refine retQ.of (.inr rfl) rfl (.tmp rfl .nil) (fun w' hw' => ?_)
                    refine ⟨?_, hw'.bel.below⟩
                    exact rfl
end Go.Proofs.Ytjabeiolgghfdaa
