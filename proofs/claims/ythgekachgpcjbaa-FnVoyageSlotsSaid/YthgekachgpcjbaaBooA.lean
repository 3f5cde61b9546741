/- Bookings: tables of numbers, the sort. Conditions: none. -/
import Derived.Test.YthgekachgpcjbaaBoo9
import Derived.Test.YthgekachgpcjbaaTb
import Derived.Test.YthgekachgpcjbaaCs
namespace Go.Proofs.Ythgekachgpcjbaa
open Go.RowKit
set_option maxRecDepth 100000
theorem eqIntS_spec {w : World} {A A2 : Option Addr} {c c2 : Nat} {l : List Int} (hs : Sl w 1 A l.length c (l.flatMap intC)) (hs2 : Sl w 1 A2 l.length c2 (l.flatMap intC)) :
    Calls Try.prog 76 #[.slice A l.length c, .slice A2 l.length c2] w (RetB w (.bool true)) := by
  have hmx := Sl.lenle hs
  refine calls_of_run (vs := [_, _]) (L := [(0, _), (1, _)]) (n := 26) (F := []) (H := []) Try.func76 rfl rfl rfl rfl (HOk.start _) ?_
  refine Run.seq ?_
  refine Run.quiet (by intro h; cases h) ?_
  refine QOps.st rfl rfl (Yv.assign rfl).yl ?_
  refine QOps.nil ?_
  refine Run.seq ?_
  refine Run.seq ?_
  refine Run.quiet (by intro h; cases h) ?_
  refine QOps.st rfl rfl (Yv.move rfl).yl ?_
  refine QOps.st rfl rfl (Yv.lenS el85s rfl).yl ?_
  refine QOps.st rfl rfl (Yv.move rfl).yl ?_
  refine QOps.st rfl rfl (Yv.lenS el85s rfl).yl ?_
  refine QOps.st rfl rfl (Yv.neI rfl rfl).yl ?_
  refine QOps.nil ?_
  refine Run.cond rfl (fun hc1 => ?_) (fun hc1 => ?_)
  · exfalso
    simp at hc1
  · try replace hc1 := of_decide_eq_false hc1
    refine Run.skip ?_
    refine Run.seq ?_
    refine Run.seq ?_
    refine Run.quiet (by intro h; cases h) ?_
    refine QOps.st rfl rfl (Yv.assign rfl).yl ?_
    refine QOps.nil ?_
    refine Run.block ?_
    refine Run.loop (S := Nat) (fun s => match s with | k => k ≤ l.length) (fun s => match s with | k => [(0, .slice A l.length c), (1, .slice A2 l.length c2), (5, .int .i64 (k : Int))]) (fun s => match s with | k => []) (fun s => match s with | k => l.length - k) 0 ?_ (SubE.cons rfl (SubE.cons rfl (SubE.cons rfl (SubE.nil _)))) (List.Sublist.refl _) ?_
    · exact Nat.zero_le _
    · rintro k hk
      show Run _ _ _ _ _ [(0, .slice A l.length c), (1, .slice A2 l.length c2), (5, .int .i64 (k : Int))] [] _
      refine Run.seq ?_
      refine Run.seq ?_
      refine Run.quiet (by intro h; cases h) ?_
      refine QOps.st rfl rfl (Yv.move rfl).yl ?_
      refine QOps.st rfl rfl (Yv.move rfl).yl ?_
      refine QOps.st rfl rfl (Yv.lenS el85s rfl).yl ?_
      refine QOps.st rfl rfl (Yv.lss rfl rfl).yl ?_
      refine QOps.nil ?_
      refine Run.cond rfl (fun hc2 => ?_) (fun hc2 => ?_)
      · try replace hc2 := of_decide_eq_true hc2
        refine Run.skip ?_
        refine Run.seq ?_
        refine Run.block ?_
        refine Run.seq ?_
        refine Run.quiet (fun _ => ⟨by kernel_rfl, by kernel_rfl⟩) ?_
        refine QOps.st rfl rfl (Yv.move rfl).yl ?_
        refine QOps.st rfl rfl (Yv.move rfl).yl ?_
        refine QOps.st rfl rfl (Yv.indexAddr k el85 rfl rfl rfl (Rd.arg hs) (by omega)).yl ?_
        refine QOps.st rfl rfl (Yv.loadE lay3 rfl intC_len (Rd.arg hs) (by first | omega | (simp; omega)) rfl).yl ?_
        refine QOps.st rfl rfl (Yv.move rfl).yl ?_
        refine QOps.st rfl rfl (Yv.move rfl).yl ?_
        refine QOps.st rfl rfl (Yv.indexAddr k el85 rfl rfl rfl (Rd.arg hs2) (by omega)).yl ?_
        refine QOps.st rfl rfl (Yv.loadE lay3 rfl intC_len (Rd.arg hs2) (by first | omega | (simp; omega)) rfl).yl ?_
        refine QOps.st rfl rfl (Yv.neI rfl rfl).yl ?_
        refine QOps.nil ?_
        refine Run.cond rfl (fun hc3 => ?_) (fun hc3 => ?_)
        · exfalso
          simp at hc3
        · try replace hc3 := of_decide_eq_false hc3
          refine Run.skip ?_
          refine Run.quiet (by intro h; cases h) ?_
          refine QOps.st rfl rfl (Yv.move rfl).yl ?_
          refine QOps.st rfl rfl (Yv.succN rfl rfl (by omega)).yl ?_
          refine QOps.st rfl rfl (Yv.assign rfl).yl ?_
          refine QOps.nil ?_
          refine ⟨k + 1, ?_, ?_, (SubE.cons rfl (SubE.cons rfl (SubE.cons rfl (SubE.nil _)))), (List.Sublist.refl _)⟩
          · show k + 1 ≤ _; omega
          · first | omega | (dsimp only; omega)
      · try replace hc2 := of_decide_eq_false hc2
        refine Run.exit ?_
        refine Run.seq ?_
        refine Run.quiet (by intro h; cases h) ?_
        refine QOps.st rfl rfl (Yv.assign rfl).yl ?_
        refine QOps.nil ?_
        refine Run.ret ?_
        refine retQ.of (.inr rfl) rfl (.tmp rfl .nil) (fun w' hw' => ?_)
        refine ⟨?_, hw'.bel.below⟩
        exact rfl
/-- The marks that a row of numbers is given: the numbers from j on. -/
def marks (m : Nat) (j : Int) : List Int := (List.range m).map (fun (i : Nat) => j + (i : Int))
theorem marks_len (m : Nat) (j : Int) : (marks m j).length = m := by simp [marks]
theorem marks_nth {m : Nat} {j : Int} {i : Nat} (h : i < m) : nth (marks m j) i = j + (i : Int) := by simp [nth, marks, h]
theorem markIntS_spec {w : World} {A : Option Addr} {c T : Nat} {l : List Int} {j0 : Int} (hrow : (HEnt.row A c T 1 l.length (l.flatMap intC)).ok w) (hl : l.length ≤ 1048576) (h1 : 0 ≤ j0) (h2 : j0 ≤ 4611686018427387904) :
    Calls Try.prog 77 #[.slice A l.length c, .int .i64 j0] w (RetMut w A c T 1 l.length ((marks l.length j0).flatMap intC) (.int .i64 (j0 + (l.length : Int)))) := by
  refine calls_of_run (vs := [_, _]) (L := [(0, _), (1, _)]) (n := 19) (F := (A.map (·.block)).toList) (H := [_]) Try.func77 rfl rfl rfl rfl (HOk.borrowRow hrow) ?_
  refine Run.seq ?_
  refine Run.quiet (by intro h; cases h) ?_
  refine QOps.st rfl rfl (Yv.assign rfl).yl ?_
  refine QOps.nil ?_
  refine Run.seq ?_
  refine Run.seq ?_
  refine Run.quiet (by intro h; cases h) ?_
  refine QOps.st rfl rfl (Yv.assign rfl).yl ?_
  refine QOps.nil ?_
  refine Run.block ?_
  refine Run.loop (S := Nat × Int × List Int) (fun s => match s with | (k, j, o) => k ≤ l.length ∧ o.length = l.length ∧ j = j0 + (k : Int) ∧ ∀ i, i < k → nth o i = j0 + (i : Int)) (fun s => match s with | (k, j, o) => [(0, .slice A l.length c), (1, .int .i64 j), (5, .int .i64 (k : Int))]) (fun s => match s with | (k, j, o) => [.row A c T 1 l.length (o.flatMap intC)]) (fun s => match s with | (k, j, o) => l.length - k) (0, j0, l) ?_ (SubE.cons rfl (SubE.cons rfl (SubE.cons rfl (SubE.nil _)))) (List.Sublist.refl _) ?_
  · exact ⟨by omega, rfl, by simp, fun i hi => by omega⟩
  · rintro ⟨k, j, o⟩ ⟨hk, hol, hj, heq⟩
    show Run _ _ _ _ _ [(0, .slice A l.length c), (1, .int .i64 j), (5, .int .i64 (k : Int))] [.row A c T 1 l.length (o.flatMap intC)] _
    refine Run.seq ?_
    refine Run.seq ?_
    refine Run.quiet (by intro h; cases h) ?_
    refine QOps.st rfl rfl (Yv.move rfl).yl ?_
    refine QOps.st rfl rfl (Yv.move rfl).yl ?_
    refine QOps.st rfl rfl (Yv.lenS el85s rfl).yl ?_
    refine QOps.st rfl rfl (Yv.lss rfl rfl).yl ?_
    refine QOps.nil ?_
    refine Run.cond rfl (fun hc1 => ?_) (fun hc1 => ?_)
    · try replace hc1 := of_decide_eq_true hc1
      refine Run.skip ?_
      refine Run.seq ?_
      refine Run.block ?_
      refine Run.seq ?_
      refine Run.ops ?_
      refine SOps.st rfl rfl (Yv.move rfl).yl ?_
      refine SOps.st rfl rfl (Yv.move rfl).yl ?_
      refine SOps.st rfl rfl (Yv.move rfl).yl ?_
      refine SOps.st rfl rfl (Yv.indexAddr k el85 rfl rfl rfl (Rd.row (i := 0) rfl) (by omega)).yl ?_
      refine SOps.one rfl (One.storeE (i := 0) (k := k) (f := 0) (H' := [_]) (e := j) lay3 rfl rfl rfl intC_len rfl (by decide) rfl rfl rfl (by first | omega | (simp; omega)) (by first | omega | (simp; omega)) rfl ?_)
      refine SOps.nil ?_
      refine Run.quiet (by intro h; cases h) ?_
      refine QOps.st rfl rfl (Yv.move rfl).yl ?_
      refine QOps.st rfl rfl (Yv.add rfl rfl (by omega)).yl ?_
      refine QOps.st rfl rfl (Yv.assign rfl).yl ?_
      refine QOps.nil ?_
      refine Run.quiet (by intro h; cases h) ?_
      refine QOps.st rfl rfl (Yv.move rfl).yl ?_
      refine QOps.st rfl rfl (Yv.succN rfl rfl (by omega)).yl ?_
      refine QOps.st rfl rfl (Yv.assign rfl).yl ?_
      refine QOps.nil ?_
      refine ⟨(k + 1, _, _), ?_, ?_, (SubE.cons rfl (SubE.cons rfl (SubE.cons rfl (SubE.nil _)))), (List.Sublist.refl _)⟩
      · exact ⟨by omega, by simpa using hol, by omega, all_succ (fun i hi => by rw [nth_set_ne (by omega)]; exact heq i hi) (by rw [nth_set_self (by omega)]; exact hj)⟩
      · first | omega | (dsimp only; omega)
    · try replace hc1 := of_decide_eq_false hc1
      refine Run.exit ?_
      refine Run.seq ?_
      refine Run.quiet (by intro h; cases h) ?_
      refine QOps.st rfl rfl (Yv.move rfl).yl ?_
      refine QOps.st rfl rfl (Yv.assign rfl).yl ?_
      refine QOps.nil ?_
      refine Run.ret ?_
      obtain rfl : k = l.length := by omega
      have hoe : o = marks l.length j0 := eq_of_nth (by rw [hol, marks_len]) (fun i hi => by rw [marks_len] at hi; rw [marks_nth hi]; exact heq i hi)
      subst hoe
      refine retQ.of (.inr rfl) rfl (.tmp rfl .nil) (fun w' hw' => ?_)
      exact ⟨by rw [hj]; rfl, hw'.bel, hw'.ent _ (List.mem_of_getElem? (i := 0) rfl)⟩
theorem heldIntS_spec {w : World} {A : Option Addr} {c m : Nat} {j0 : Int} (hs : Sl w 1 A m c ((marks m j0).flatMap intC)) (hl : m ≤ 1048576) (h1 : 0 ≤ j0) (h2 : j0 ≤ 4611686018427387904) :
    Calls Try.prog 78 #[.slice A m c, .int .i64 j0] w (RetB w (.int .i64 (j0 + (m : Int)))) := by
  have hml := marks_len m j0
  refine calls_of_run (vs := [_, _]) (L := [(0, _), (1, _)]) (n := 21) (F := []) (H := []) Try.func78 rfl rfl rfl rfl (HOk.start _) ?_
  refine Run.seq ?_
  refine Run.quiet (by intro h; cases h) ?_
  refine QOps.st rfl rfl (Yv.assign rfl).yl ?_
  refine QOps.nil ?_
  refine Run.seq ?_
  refine Run.seq ?_
  refine Run.quiet (by intro h; cases h) ?_
  refine QOps.st rfl rfl (Yv.assign rfl).yl ?_
  refine QOps.nil ?_
  refine Run.block ?_
  refine Run.loop (S := Nat × Int) (fun s => match s with | (k, j) => k ≤ m ∧ j = j0 + (k : Int)) (fun s => match s with | (k, j) => [(0, .slice A m c), (1, .int .i64 j), (5, .int .i64 (k : Int))]) (fun s => match s with | (k, j) => []) (fun s => match s with | (k, j) => m - k) (0, j0) ?_ (SubE.cons rfl (SubE.cons rfl (SubE.cons rfl (SubE.nil _)))) (List.Sublist.refl _) ?_
  · exact ⟨by omega, by simp⟩
  · rintro ⟨k, j⟩ ⟨hk, hj⟩
    show Run _ _ _ _ _ [(0, .slice A m c), (1, .int .i64 j), (5, .int .i64 (k : Int))] [] _
    refine Run.seq ?_
    refine Run.seq ?_
    refine Run.quiet (by intro h; cases h) ?_
    refine QOps.st rfl rfl (Yv.move rfl).yl ?_
    refine QOps.st rfl rfl (Yv.move rfl).yl ?_
    refine QOps.st rfl rfl (Yv.lenS el85s rfl).yl ?_
    refine QOps.st rfl rfl (Yv.lss rfl rfl).yl ?_
    refine QOps.nil ?_
    refine Run.cond rfl (fun hc1 => ?_) (fun hc1 => ?_)
    · try replace hc1 := of_decide_eq_true hc1
      refine Run.skip ?_
      refine Run.seq ?_
      refine Run.block ?_
      refine Run.seq ?_
      refine Run.seq ?_
      refine Run.quiet (by intro h; cases h) ?_
      refine QOps.st rfl rfl (Yv.move rfl).yl ?_
      refine QOps.st rfl rfl (Yv.move rfl).yl ?_
      refine QOps.st rfl rfl (Yv.indexAddr k el85 rfl rfl rfl (Rd.arg hs) (by omega)).yl ?_
      refine QOps.st rfl rfl (Yv.loadE lay3 rfl intC_len (Rd.arg hs) (by omega) rfl).yl ?_
      refine QOps.st rfl rfl (Yv.move rfl).yl ?_
      refine QOps.st rfl rfl (Yv.neI rfl rfl).yl ?_
      refine QOps.nil ?_
      refine Run.cond rfl (fun hc2 => ?_) (fun hc2 => ?_)
      · exfalso
        simp [marks_nth (show k < m by omega)] at hc2; try omega
      · try replace hc2 := of_decide_eq_false hc2
        refine Run.skip ?_
        refine Run.quiet (by intro h; cases h) ?_
        refine QOps.st rfl rfl (Yv.move rfl).yl ?_
        refine QOps.st rfl rfl (Yv.add rfl rfl (by omega)).yl ?_
        refine QOps.st rfl rfl (Yv.assign rfl).yl ?_
        refine QOps.nil ?_
        refine Run.quiet (by intro h; cases h) ?_
        refine QOps.st rfl rfl (Yv.move rfl).yl ?_
        refine QOps.st rfl rfl (Yv.succN rfl rfl (by omega)).yl ?_
        refine QOps.st rfl rfl (Yv.assign rfl).yl ?_
        refine QOps.nil ?_
        refine ⟨(k + 1, _), ?_, ?_, (SubE.cons rfl (SubE.cons rfl (SubE.cons rfl (SubE.nil _)))), (List.Sublist.refl _)⟩
        · exact ⟨by omega, by omega⟩
        · first | omega | (dsimp only; omega)
    · try replace hc1 := of_decide_eq_false hc1
      refine Run.exit ?_
      refine Run.seq ?_
      refine Run.quiet (by intro h; cases h) ?_
      refine QOps.st rfl rfl (Yv.move rfl).yl ?_
      refine QOps.st rfl rfl (Yv.assign rfl).yl ?_
      refine QOps.nil ?_
      refine Run.ret ?_
      obtain rfl : k = m := by omega
      refine retQ.of (.inr rfl) rfl (.tmp rfl .nil) (fun w' hw' => ?_)
      refine ⟨?_, hw'.bel.below⟩
      refine retI_eq ?_
      exact hj

/-- The marks that the inner rows are given, one behind the other. -/
def markTab (rs : List (InR Int)) (j : Int) : List (InR Int) := (List.range rs.length).map fun i => ⟨(nth rs i).A, (nth rs i).c, marks (nth rs i).l.length (j + tot rs i)⟩
theorem markTab_len {rs : List (InR Int)} {j : Int} : (markTab rs j).length = rs.length := by simp [markTab]
theorem markTab_nth {rs : List (InR Int)} {j : Int} {i : Nat} (h : i < rs.length) : nth (markTab rs j) i = ⟨(nth rs i).A, (nth rs i).c, marks (nth rs i).l.length (j + tot rs i)⟩ := by simp [nth, markTab, h]
theorem map_nth {rs rs2 : List (InR Int)} (he : rs.map InR.l = rs2.map InR.l) {k : Nat} (hk : k < rs.length) : (nth rs2 k).l = (nth rs k).l := by
  have hl : rs.length = rs2.length := by simpa using congrArg List.length he
  have h1 : (rs.map InR.l)[k]? = (rs2.map InR.l)[k]? := by rw [he]
  rw [List.getElem?_map, List.getElem?_map, nth_get hk, nth_get (by omega)] at h1
  simpa using h1.symm
theorem inner_ok {w0 w : World} {F : List Nat} {T sz : Nat} {enc : Int → List Value} {o : List (InR Int)} {k : Nat} {x : InR Int} (hk : k < o.length) (hx : nth o k = x) (hw : HOk w0 F (o.map (InR.row T sz enc)) w) : (HEnt.row x.A x.c T sz x.l.length (x.l.flatMap enc)).ok w := by
  subst hx
  exact hw.ent ((nth o k).row T sz enc) (List.mem_map_of_mem (nthMem hk))
theorem eqIntS2_spec {w : World} {A A2 : Option Addr} {c c2 : Nat} {l l2 : List Int} (he : l2 = l) (hs : Sl w 1 A l.length c (l.flatMap intC)) (hs2 : Sl w 1 A2 l2.length c2 (l2.flatMap intC)) :
    Calls Try.prog 76 #[.slice A l.length c, .slice A2 l2.length c2] w (RetB w (.bool true)) := by
  subst he
  exact eqIntS_spec hs hs2
theorem eqIntSS_spec {w : World} {A A2 : Option Addr} {c c2 : Nat} {rs rs2 : List (InR Int)} (hs : Sl w 1 A rs.length c (rs.flatMap InR.enc)) (hs2 : Sl w 1 A2 rs2.length c2 (rs2.flatMap InR.enc)) (hin : ∀ x ∈ rs, x.rd w 1 intC) (hin2 : ∀ x ∈ rs2, x.rd w 1 intC) (he : rs.map InR.l = rs2.map InR.l) :
    Calls Try.prog 43 #[.slice A rs.length c, .slice A2 rs2.length c2] w (RetB w (.bool true)) := by
  have hmx := Sl.lenle hs
  have hl : rs.length = rs2.length := by simpa using congrArg List.length he
  refine calls_of_run (vs := [_, _]) (L := [(0, _), (1, _)]) (n := 27) (F := []) (H := []) Try.func43 rfl rfl rfl rfl (HOk.start _) ?_
  refine Run.seq ?_
  refine Run.quiet (by intro h; cases h) ?_
  refine QOps.st rfl rfl (Yv.assign rfl).yl ?_
  refine QOps.nil ?_
  refine Run.seq ?_
  refine Run.seq ?_
  refine Run.quiet (by intro h; cases h) ?_
  refine QOps.st rfl rfl (Yv.move rfl).yl ?_
  refine QOps.st rfl rfl (Yv.lenS el56s rfl).yl ?_
  refine QOps.st rfl rfl (Yv.move rfl).yl ?_
  refine QOps.st rfl rfl (Yv.lenS el56s rfl).yl ?_
  refine QOps.st rfl rfl (Yv.neI rfl rfl).yl ?_
  refine QOps.nil ?_
  refine Run.cond rfl (fun hc1 => ?_) (fun hc1 => ?_)
  · exfalso
    simp [hl] at hc1
  · try replace hc1 := of_decide_eq_false hc1
    refine Run.skip ?_
    refine Run.seq ?_
    refine Run.seq ?_
    refine Run.quiet (by intro h; cases h) ?_
    refine QOps.st rfl rfl (Yv.assign rfl).yl ?_
    refine QOps.nil ?_
    refine Run.block ?_
    refine Run.loop (S := Nat) (fun s => match s with | k => k ≤ rs.length) (fun s => match s with | k => [(0, .slice A rs.length c), (1, .slice A2 rs2.length c2), (5, .int .i64 (k : Int))]) (fun s => match s with | k => []) (fun s => match s with | k => rs.length - k) 0 ?_ (SubE.cons rfl (SubE.cons rfl (SubE.cons rfl (SubE.nil _)))) (List.Sublist.refl _) ?_
    · exact Nat.zero_le _
    · rintro k hk
      show Run _ _ _ _ _ [(0, .slice A rs.length c), (1, .slice A2 rs2.length c2), (5, .int .i64 (k : Int))] [] _
      refine Run.seq ?_
      refine Run.seq ?_
      refine Run.quiet (by intro h; cases h) ?_
      refine QOps.st rfl rfl (Yv.move rfl).yl ?_
      refine QOps.st rfl rfl (Yv.move rfl).yl ?_
      refine QOps.st rfl rfl (Yv.lenS el56s rfl).yl ?_
      refine QOps.st rfl rfl (Yv.lss rfl rfl).yl ?_
      refine QOps.nil ?_
      refine Run.cond rfl (fun hc2 => ?_) (fun hc2 => ?_)
      · try replace hc2 := of_decide_eq_true hc2
        refine Run.skip ?_
        refine Run.seq ?_
        refine Run.block ?_
        refine Run.seq ?_
        refine Run.quiet (fun _ => ⟨by kernel_rfl, by kernel_rfl⟩) ?_
        refine QOps.st rfl rfl (Yv.move rfl).yl ?_
        refine QOps.st rfl rfl (Yv.move rfl).yl ?_
        refine QOps.st rfl rfl (Yv.indexAddr k el56 rfl rfl rfl (Rd.arg hs) (by omega)).yl ?_
        refine QOps.st rfl rfl (Yv.loadE (k := k) lay85 rfl InR.len (Rd.arg hs) (by first | omega | (simp; omega)) rfl).yl ?_
        refine QOps.st rfl rfl (Yv.move rfl).yl ?_
        refine QOps.st rfl rfl (Yv.move rfl).yl ?_
        refine QOps.st rfl rfl (Yv.indexAddr k el56 rfl rfl rfl (Rd.arg hs2) (by omega)).yl ?_
        refine QOps.st rfl rfl (Yv.loadE (k := k) lay85 rfl InR.len (Rd.arg hs2) (by first | omega | (simp; omega)) rfl).yl ?_
        refine QOps.st rfl rfl (Yl.call callable76 (.cons rfl (.cons rfl (.nil))) (fun w' hw' => eqIntS2_spec (map_nth he (show k < rs.length by omega)) ((Rd.arg (hin _ (nthMem (by omega)))) w' hw') ((Rd.arg (hin2 _ (nthMem (by omega)))) w' hw'))) ?_
        refine QOps.st rfl rfl (Yv.not rfl).yl ?_
        refine QOps.nil ?_
        refine Run.cond rfl (fun hc3 => ?_) (fun hc3 => ?_)
        · exfalso
          simp at hc3
        · try replace hc3 := of_decide_eq_false hc3
          refine Run.skip ?_
          refine Run.quiet (by intro h; cases h) ?_
          refine QOps.st rfl rfl (Yv.move rfl).yl ?_
          refine QOps.st rfl rfl (Yv.succN rfl rfl (by omega)).yl ?_
          refine QOps.st rfl rfl (Yv.assign rfl).yl ?_
          refine QOps.nil ?_
          refine ⟨k + 1, ?_, ?_, (SubE.cons rfl (SubE.cons rfl (SubE.cons rfl (SubE.nil _)))), (List.Sublist.refl _)⟩
          · show k + 1 ≤ _; omega
          · first | omega | (dsimp only; omega)
      · try replace hc2 := of_decide_eq_false hc2
        refine Run.exit ?_
        refine Run.seq ?_
        refine Run.quiet (by intro h; cases h) ?_
        refine QOps.st rfl rfl (Yv.assign rfl).yl ?_
        refine QOps.nil ?_
        refine Run.ret ?_
        refine retQ.of (.inr rfl) rfl (.tmp rfl .nil) (fun w' hw' => ?_)
        refine ⟨?_, hw'.bel.below⟩
        exact rfl
theorem heldIntSS_spec {w : World} {A : Option Addr} {c : Nat} {rs : List (InR Int)} {j0 : Int} (hs : Sl w 1 A rs.length c (rs.flatMap InR.enc)) (hin : ∀ x ∈ markTab rs j0, x.rd w 1 intC) (ht : tot rs rs.length ≤ 1048576) (h1 : 0 ≤ j0) (h2 : j0 ≤ 4000000000000000000) :
    Calls Try.prog 45 #[.slice A rs.length c, .int .i64 j0] w (RetB w (.int .i64 (j0 + tot rs rs.length))) := by
  have hmx := Sl.lenle hs
  have hin2 : ∀ k, k < rs.length → Sl w 1 (nth rs k).A (nth rs k).l.length (nth rs k).c ((marks (nth rs k).l.length (j0 + tot rs k)).flatMap intC) := fun k hk => by
    have h3 := hin _ (nthMem (show k < (markTab rs j0).length by rw [markTab_len]; exact hk))
    rw [markTab_nth hk] at h3
    unfold InR.rd at h3
    simpa [marks_len] using h3
  refine calls_of_run (vs := [_, _]) (L := [(0, _), (1, _)]) (n := 21) (F := []) (H := []) Try.func45 rfl rfl rfl rfl (HOk.start _) ?_
  refine Run.seq ?_
  refine Run.quiet (by intro h; cases h) ?_
  refine QOps.st rfl rfl (Yv.assign rfl).yl ?_
  refine QOps.nil ?_
  refine Run.seq ?_
  refine Run.seq ?_
  refine Run.quiet (by intro h; cases h) ?_
  refine QOps.st rfl rfl (Yv.assign rfl).yl ?_
  refine QOps.nil ?_
  refine Run.block ?_
  refine Run.loop (S := Nat) (fun s => match s with | k => k ≤ rs.length) (fun s => match s with | k => [(0, .slice A rs.length c), (1, .int .i64 (j0 + tot rs k)), (5, .int .i64 (k : Int))]) (fun s => match s with | k => []) (fun s => match s with | k => rs.length - k) 0 ?_ (SubE.cons rfl (SubE.cons (congrArg some (by congr 1; rw [tot]; omega)) (SubE.cons rfl (SubE.nil _)))) (List.Sublist.refl _) ?_
  · exact Nat.zero_le _
  · rintro k hk
    show Run _ _ _ _ _ [(0, .slice A rs.length c), (1, .int .i64 (j0 + tot rs k)), (5, .int .i64 (k : Int))] [] _
    refine Run.seq ?_
    refine Run.seq ?_
    refine Run.quiet (by intro h; cases h) ?_
    refine QOps.st rfl rfl (Yv.move rfl).yl ?_
    refine QOps.st rfl rfl (Yv.move rfl).yl ?_
    refine QOps.st rfl rfl (Yv.lenS el56s rfl).yl ?_
    refine QOps.st rfl rfl (Yv.lss rfl rfl).yl ?_
    refine QOps.nil ?_
    refine Run.cond rfl (fun hc1 => ?_) (fun hc1 => ?_)
    · try replace hc1 := of_decide_eq_true hc1
      have htk := tot_nonneg (rs := rs) (k := k)
      have htk1 := tot_mono (rs := rs) (show k + 1 ≤ rs.length by omega)
      have htk2 : tot rs (k + 1) = tot rs k + (nth rs k).l.length := rfl
      refine Run.skip ?_
      refine Run.seq ?_
      refine Run.block ?_
      refine Run.seq ?_
      refine Run.quiet (by intro h; cases h) ?_
      refine QOps.st rfl rfl (Yv.move rfl).yl ?_
      refine QOps.st rfl rfl (Yv.move rfl).yl ?_
      refine QOps.st rfl rfl (Yv.indexAddr k el56 rfl rfl rfl (Rd.arg hs) (by omega)).yl ?_
      refine QOps.st rfl rfl (Yv.loadE (k := k) lay85 rfl InR.len (Rd.arg hs) (by first | omega | (simp; omega)) rfl).yl ?_
      refine QOps.st rfl rfl (Yv.move rfl).yl ?_
      refine QOps.st rfl rfl (Yl.call callable78 (.cons rfl (.cons rfl (.nil))) (fun w' hw' => heldIntS_spec ((Rd.arg (hin2 _ (by omega))) w' hw') (by omega) (by omega) (by omega))) ?_
      refine QOps.st rfl rfl (Yv.assign rfl).yl ?_
      refine QOps.nil ?_
      refine Run.seq ?_
      refine Run.quiet (by intro h; cases h) ?_
      refine QOps.st rfl rfl (Yv.move rfl).yl ?_
      refine QOps.st rfl rfl (Yv.lss rfl rfl).yl ?_
      refine QOps.nil ?_
      refine Run.cond rfl (fun hc2 => ?_) (fun hc2 => ?_)
      · exfalso
        simp at hc2; omega
      · try replace hc2 := of_decide_eq_false hc2
        refine Run.skip ?_
        refine Run.quiet (by intro h; cases h) ?_
        refine QOps.st rfl rfl (Yv.move rfl).yl ?_
        refine QOps.st rfl rfl (Yv.succN rfl rfl (by omega)).yl ?_
        refine QOps.st rfl rfl (Yv.assign rfl).yl ?_
        refine QOps.nil ?_
        refine ⟨k + 1, ?_, ?_, (SubE.cons rfl (SubE.cons (congrArg some (by congr 1; rw [tot]; omega)) (SubE.cons rfl (SubE.nil _)))), (List.Sublist.refl _)⟩
        · show k + 1 ≤ _; omega
        · first | omega | (dsimp only; omega)
    · try replace hc1 := of_decide_eq_false hc1
      refine Run.exit ?_
      refine Run.seq ?_
      refine Run.quiet (by intro h; cases h) ?_
      refine QOps.st rfl rfl (Yv.move rfl).yl ?_
      refine QOps.st rfl rfl (Yv.assign rfl).yl ?_
      refine QOps.nil ?_
      refine Run.ret ?_
      obtain rfl : k = rs.length := by omega
      refine retQ.of (.inr rfl) rfl (.tmp rfl .nil) (fun w' hw' => ?_)
      refine ⟨?_, hw'.bel.below⟩
      exact rfl
theorem markIntSS_spec {w : World} {A : Option Addr} {c : Nat} {rs : List (InR Int)} {j0 : Int} (hw : HOk w (blks (rs.map (InR.row 3 1 intC))) (rs.map (InR.row 3 1 intC)) w) (hs : Sl w 1 A rs.length c (rs.flatMap InR.enc)) (hne : 0 < rs.length → (adr A).block ∉ blks (rs.map (InR.row 3 1 intC))) (ht : tot rs rs.length ≤ 1048576) (h1 : 0 ≤ j0) (h2 : j0 ≤ 4000000000000000000) :
    Calls Try.prog 44 #[.slice A rs.length c, .int .i64 j0] w (RetH w (rs.map (InR.row 3 1 intC)) (fun (_ : Unit) => (markTab rs j0).map (InR.row 3 1 intC)) (fun _ => .int .i64 (j0 + tot rs rs.length)) (fun _ => True)) := by
  have hmx := Sl.lenle hs
  refine calls_of_run (vs := [_, _]) (L := [(0, _), (1, _)]) (n := 19) (F := blks _) (H := _) Try.func44 rfl rfl rfl rfl hw ?_
  refine Run.seq ?_
  refine Run.quiet (by intro h; cases h) ?_
  refine QOps.st rfl rfl (Yv.assign rfl).yl ?_
  refine QOps.nil ?_
  refine Run.seq ?_
  refine Run.seq ?_
  refine Run.quiet (by intro h; cases h) ?_
  refine QOps.st rfl rfl (Yv.assign rfl).yl ?_
  refine QOps.nil ?_
  refine Run.block ?_
  refine Run.loop (S := Nat × List (InR Int)) (fun s => match s with | (k, o) => k ≤ rs.length ∧ o.length = rs.length ∧ (∀ x, x < k → nth o x = nth (markTab rs j0) x) ∧ ∀ x, k ≤ x → nth o x = nth rs x) (fun s => match s with | (k, o) => [(0, .slice A rs.length c), (1, .int .i64 (j0 + tot rs k)), (5, .int .i64 (k : Int))]) (fun s => match s with | (k, o) => (o.map (InR.row 3 1 intC))) (fun s => match s with | (k, o) => rs.length - k) (0, rs) ?_ (SubE.cons rfl (SubE.cons (congrArg some (by congr 1; rw [tot]; omega)) (SubE.cons rfl (SubE.nil _)))) (List.Sublist.refl _) ?_
  · exact ⟨Nat.zero_le _, rfl, fun x hx => by omega, fun x _ => rfl⟩
  · rintro ⟨k, o⟩ ⟨hk, hol, hlo, hor⟩
    show Run _ _ _ _ _ [(0, .slice A rs.length c), (1, .int .i64 (j0 + tot rs k)), (5, .int .i64 (k : Int))] (o.map (InR.row 3 1 intC)) _
    refine Run.seq ?_
    refine Run.seq ?_
    refine Run.quiet (by intro h; cases h) ?_
    refine QOps.st rfl rfl (Yv.move rfl).yl ?_
    refine QOps.st rfl rfl (Yv.move rfl).yl ?_
    refine QOps.st rfl rfl (Yv.lenS el56s rfl).yl ?_
    refine QOps.st rfl rfl (Yv.lss rfl rfl).yl ?_
    refine QOps.nil ?_
    refine Run.cond rfl (fun hc1 => ?_) (fun hc1 => ?_)
    · try replace hc1 := of_decide_eq_true hc1
      have htk := tot_nonneg (rs := rs) (k := k)
      have htk1 := tot_mono (rs := rs) (show k + 1 ≤ rs.length by omega)
      have htk2 : tot rs (k + 1) = tot rs k + (nth rs k).l.length := rfl
      refine Run.skip ?_
      refine Run.seq ?_
      refine Run.block ?_
      refine Run.ops ?_
      refine SOps.st rfl rfl (Yv.move rfl).yl ?_
      refine SOps.st rfl rfl (Yv.move rfl).yl ?_
      refine SOps.st rfl rfl (Yv.indexAddr k el56 rfl rfl rfl (Rd.argN hs hne) (by omega)).yl ?_
      refine SOps.st rfl rfl (Yv.loadE (k := k) lay85 rfl InR.len (Rd.argN hs hne) (by first | omega | (simp; omega)) rfl).yl ?_
      refine SOps.st rfl rfl (Yv.move rfl).yl ?_
      refine SOps.one rfl (One.callMutIn (k := k) (x := nth rs k) (l' := marks (nth rs k).l.length (j0 + tot rs k)) rfl callable77 (.cons rfl (.cons rfl (.nil))) (by omega) (hor k (Nat.le_refl _)) (marks_len _ _) (fun w' hw' => markIntS_spec (inner_ok (by omega) (hor k (Nat.le_refl _)) hw') (by omega) (by omega) (by omega)) ?_)
      refine SOps.st rfl rfl (Yv.assign rfl).yl ?_
      refine SOps.nil ?_
      refine Run.quiet (by intro h; cases h) ?_
      refine QOps.st rfl rfl (Yv.move rfl).yl ?_
      refine QOps.st rfl rfl (Yv.succN rfl rfl (by omega)).yl ?_
      refine QOps.st rfl rfl (Yv.assign rfl).yl ?_
      refine QOps.nil ?_
      refine ⟨(k + 1, _), ?_, ?_, (SubE.cons rfl (SubE.cons (congrArg some (by congr 1; rw [tot]; omega)) (SubE.cons rfl (SubE.nil _)))), (List.Sublist.refl _)⟩
      · exact ⟨by omega, by simpa using hol, all_succ (fun i hi => by rw [nth_set_ne (by omega)]; exact hlo i hi) (by rw [nth_set_self (by omega), markTab_nth (by omega)]), fun x hx => by rw [nth_set_ne (by omega)]; exact hor x (by omega)⟩
      · first | omega | (dsimp only; omega)
    · try replace hc1 := of_decide_eq_false hc1
      refine Run.exit ?_
      refine Run.seq ?_
      refine Run.quiet (by intro h; cases h) ?_
      refine QOps.st rfl rfl (Yv.move rfl).yl ?_
      refine QOps.st rfl rfl (Yv.assign rfl).yl ?_
      refine QOps.nil ?_
      refine Run.ret ?_
      obtain rfl : k = rs.length := by omega
      obtain rfl : o = markTab rs j0 := eq_of_nth (by rw [hol, markTab_len]) (fun i hi => by rw [markTab_len] at hi; exact hlo i hi)
      refine retQ.of (.inr rfl) rfl (.tmp rfl .nil) (fun w' hw' => ?_)
      exact ⟨(), rfl, trivial, hw'⟩

/-! Insertion, from the end -/
def posL {α : Type} [Inhabited α] (lt : α → α → Bool) (x : α) (o : List α) : Nat → Nat
  | 0 => 0
  | k + 1 => if lt x (nth o k) = true then posL lt x o k else k + 1
def insL {α : Type} [Inhabited α] (lt : α → α → Bool) (o : List α) (x : α) : List α := o.take (posL lt x o o.length) ++ [x] ++ o.drop (posL lt x o o.length)
def srtL {α : Type} [Inhabited α] (lt : α → α → Bool) (l : List α) : Nat → List α
  | 0 => []
  | k + 1 => insL lt (srtL lt l k) (nth l k)
theorem mem_swap {α : Type} {o l : List α} {a b : α} {i j : Nat} (h : ∀ x ∈ o, x ∈ l) (ha : a ∈ l) (hb : b ∈ l) : ∀ x ∈ (o.set i a).set j b, x ∈ l := fun x hx => by
  rcases List.mem_or_eq_of_mem_set hx with h1 | h1
  · rcases List.mem_or_eq_of_mem_set h1 with h2 | h2
    · exact h x h2
    · rw [h2]; exact ha
  · rw [h1]; exact hb
section
variable {α : Type} [Inhabited α] {lt : α → α → Bool}
theorem posL_le {x : α} {o : List α} : ∀ {k : Nat}, posL lt x o k ≤ k
  | 0 => Nat.le_refl _
  | k + 1 => by
    rw [posL]
    split
    · have : posL lt x o k ≤ k := posL_le
      omega
    · exact Nat.le_refl _
theorem insL_len {o : List α} {x : α} : (insL lt o x).length = o.length + 1 := by
  have := posL_le (lt := lt) (x := x) (o := o) (k := o.length)
  unfold insL
  simp
  omega
theorem srtL_len {l : List α} : ∀ {k : Nat}, (srtL lt l k).length = k
  | 0 => rfl
  | k + 1 => by rw [srtL, insL_len, srtL_len]
theorem insL_perm {o : List α} {x : α} : (x :: o).Perm (insL lt o x) := by
  unfold insL
  have h : (x :: (o.take (posL lt x o o.length) ++ o.drop (posL lt x o o.length))).Perm (o.take (posL lt x o o.length) ++ x :: o.drop (posL lt x o o.length)) := List.perm_middle.symm
  rw [List.take_append_drop] at h
  simpa using h
theorem srtL_perm {l : List α} : ∀ {k : Nat}, k ≤ l.length → (l.take k).Perm (srtL lt l k)
  | 0, _ => by simp [srtL]
  | k + 1, h => by
    rw [srtL, List.take_add_one, nth_get (show k < l.length by omega)]
    have ih := srtL_perm (l := l) (k := k) (by omega)
    have h1 : (l.take k ++ [nth l k]).Perm (nth l k :: l.take k) := List.perm_append_singleton _ _
    exact (h1.trans (List.Perm.cons _ ih)).trans insL_perm
theorem posL_map {β : Type} [Inhabited β] {f : α → β} {lt2 : β → β → Bool} (hf : ∀ x y, lt x y = lt2 (f x) (f y)) {x : α} {o : List α} : ∀ {k : Nat}, k ≤ o.length → posL lt2 (f x) (o.map f) k = posL lt x o k
  | 0, _ => rfl
  | k + 1, h => by
    have e : nth (o.map f) k = f (nth o k) := by
      have h1 : (o.map f)[k]? = some (f (nth o k)) := by rw [List.getElem?_map, nth_get (show k < o.length by omega)]; rfl
      simp [nth, h1]
    rw [posL, posL, posL_map hf (by omega), e, ← hf]
theorem insL_map {β : Type} [Inhabited β] {f : α → β} {lt2 : β → β → Bool} (hf : ∀ x y, lt x y = lt2 (f x) (f y)) {x : α} {o : List α} : (insL lt o x).map f = insL lt2 (o.map f) (f x) := by
  unfold insL
  rw [List.length_map, posL_map hf (Nat.le_refl _)]
  simp
theorem srtL_map {β : Type} [Inhabited β] {f : α → β} {lt2 : β → β → Bool} (hf : ∀ x y, lt x y = lt2 (f x) (f y)) {l : List α} : ∀ {k : Nat}, k ≤ l.length → (srtL lt l k).map f = srtL lt2 (l.map f) k
  | 0, _ => rfl
  | k + 1, h => by
    have e : nth (l.map f) k = f (nth l k) := by
      have h1 : (l.map f)[k]? = some (f (nth l k)) := by rw [List.getElem?_map, nth_get (show k < l.length by omega)]; rfl
      simp [nth, h1]
    rw [srtL, srtL, insL_map hf, srtL_map hf (by omega), e]
/-- What is sorted so far, with x on its way down, and the rest. -/
def midL (s : List α) (x : α) (r : List α) (j : Nat) : List α := s.take j ++ [x] ++ s.drop j ++ r
theorem midL_at {s r : List α} {x : α} {j : Nat} (h : j ≤ s.length) : nth (midL s x r j) j = x := by
  have e : (midL s x r j)[j]? = some x := by
    unfold midL
    rw [List.append_assoc, List.append_assoc, List.getElem?_append_right (by simp; omega)]
    simp [Nat.min_eq_left h]
  simp [nth, e]
theorem midL_before {s r : List α} {x : α} {j : Nat} (h : j < s.length) : nth (midL s x r (j + 1)) j = nth s j := by
  have e : (midL s x r (j + 1))[j]? = s[j]? := by
    unfold midL
    rw [List.append_assoc, List.append_assoc, List.getElem?_append_left (by simp; omega), List.getElem?_take, if_pos (by omega)]
  simp [nth, e]
theorem midL_swap {s r : List α} {x : α} {j : Nat} (h : j < s.length) : ((midL s x r (j + 1)).set (j + 1) (nth s j)).set j x = midL s x r j := by
  have e1 : s.take (j + 1) = s.take j ++ [nth s j] := by rw [List.take_add_one, nth_get h]; rfl
  have e2 : s.drop j = nth s j :: s.drop (j + 1) := by
    rw [List.drop_eq_getElem_cons h]
    simp [nth, h]
  have hl : (s.take j).length = j := by simp; omega
  unfold midL
  rw [e1, e2]
  generalize s.take j = a at hl
  generalize nth s j = y
  generalize s.drop (j + 1) = b
  subst hl
  simp
theorem midL_swap' {s r : List α} {x : α} {j : Nat} (h0 : 0 < j) (h : j ≤ s.length) : ((midL s x r j).set j (nth (midL s x r j) (j - 1))).set (j - 1) (nth (midL s x r j) j) = midL s x r (j - 1) := by
  obtain ⟨q, rfl⟩ : ∃ q, j = q + 1 := ⟨j - 1, by omega⟩
  rw [midL_at h, show q + 1 - 1 = q from rfl, midL_before (by omega)]
  exact midL_swap (by omega)
theorem midL_prev {s r : List α} {x : α} {j : Nat} (h0 : 0 < j) (h : j ≤ s.length) : nth (midL s x r j) (j - 1) = nth s (j - 1) := by
  obtain ⟨q, rfl⟩ : ∃ q, j = q + 1 := ⟨j - 1, by omega⟩
  exact midL_before (by omega)
theorem posL_step {x : α} {o : List α} {j : Nat} (h0 : 0 < j) (h : lt x (nth o (j - 1)) = true) : posL lt x o j = posL lt x o (j - 1) := by
  obtain ⟨q, rfl⟩ : ∃ q, j = q + 1 := ⟨j - 1, by omega⟩
  rw [show q + 1 - 1 = q from rfl] at h ⊢
  rw [posL, if_pos h]
theorem posL_stop {x : α} {o : List α} {j : Nat} (h : 0 < j → ¬ lt x (nth o (j - 1)) = true) : posL lt x o j = j := by
  cases j with
  | zero => rfl
  | succ q =>
    have h1 := h (by omega)
    rw [show q + 1 - 1 = q from rfl] at h1
    rw [posL, if_neg h1]
theorem srt_one {l : List α} (h : 0 < l.length) : l = srtL lt l 1 ++ l.drop 1 := by
  have e : srtL lt l 1 = [nth l 0] := rfl
  have e2 := List.drop_eq_getElem_cons h
  rw [e]
  simp only [List.drop_zero] at e2
  conv => lhs; rw [e2]
  simp [nth, h]
theorem midL_start {l : List α} {i : Nat} (h : i < l.length) : srtL lt l i ++ l.drop i = midL (srtL lt l i) (nth l i) (l.drop (i + 1)) i := by
  have e2 : l.drop i = nth l i :: l.drop (i + 1) := by
    rw [List.drop_eq_getElem_cons h]
    simp [nth, h]
  have ht : (srtL lt l i).take i = srtL lt l i := List.take_of_length_le (by rw [srtL_len]; exact Nat.le_refl _)
  have hd : (srtL lt l i).drop i = [] := List.drop_of_length_le (by rw [srtL_len]; exact Nat.le_refl _)
  unfold midL
  rw [e2, ht, hd]
  simp
theorem midL_end {l : List α} {i j : Nat} (h : posL lt (nth l i) (srtL lt l i) i = j) : midL (srtL lt l i) (nth l i) (l.drop (i + 1)) j = srtL lt l (i + 1) ++ l.drop (i + 1) := by
  unfold midL
  rw [srtL]
  unfold insL
  rw [srtL_len, h]
end
abbrev ltC (cf : InR Int → InR Int → Int) : InR Int → InR Int → Bool := fun x y => decide (cf x y < 0)
theorem insSortS {w : World} {a : Addr} {c m : Nat} {l : List (InR Int)} {f : FuncId} {cf : InR Int → InR Int → Int} (hrow : (HEnt.row (some a) c 85 1 m (l.flatMap InR.enc)).ok w) (hl : l.length = m) (hm : m ≤ 1048576) (hf : callable Try.prog f = true) (hcl : ∀ w', Bel (((some a)).map (·.block)).toList w w' → ∀ x y : InR Int, x ∈ l → y ∈ l → Calls Try.prog f (#[] ++ [.slice x.A x.l.length x.c, .slice y.A y.l.length y.c].toArray ++ #[]) w' (RetB w' (.int .i64 (cf x y)))) :
    Calls Try.prog 92 #[.slice (some a) m c, .int .i64 0, .int .i64 (m : Int), .func (.func f) #[] #[]] w (RetMut w (some a) c 85 1 m ((srtL (fun x y => decide (cf x y < 0)) l m).flatMap InR.enc) (.tuple #[])) := by
  refine calls_of_run (vs := [_, _, _, _]) (L := [(0, _), (1, _), (2, _), (3, _)]) (n := 53) (F := (Option.map (·.block) (some a)).toList) (H := [_]) Try.func92 rfl rfl rfl rfl (HOk.borrowRow hrow) ?_
  refine Run.seq ?_
  refine Run.quiet (by intro h; cases h) ?_
  refine QOps.st rfl rfl (Yv.move rfl).yl ?_
  refine QOps.st rfl rfl (Yv.add rfl rfl (by omega)).yl ?_
  refine QOps.st rfl rfl (Yv.assign rfl).yl ?_
  refine QOps.nil ?_
  refine Run.block ?_
  refine Run.loop (S := Nat × List (InR Int)) (fun s => match s with | (i, o) => 1 ≤ i ∧ (i ≤ m ∨ m = 0 ∧ i = 1) ∧ o.length = m ∧ (i ≤ m → o = srtL (ltC cf) l i ++ l.drop i) ∧ ∀ x ∈ o, x ∈ l) (fun s => match s with | (i, o) => [(0, .slice (some a) m c), (1, .int .i64 0), (2, .int .i64 (m : Int)), (3, .func (.func f) #[] #[]), (8, .int .i64 (i : Int))]) (fun s => match s with | (i, o) => [.row (some a) c 85 1 m (o.flatMap InR.enc)]) (fun s => match s with | (i, o) => m + 1 - i) (1, l) ?_ (SubE.cons rfl (SubE.cons rfl (SubE.cons rfl (SubE.cons rfl (SubE.cons rfl (SubE.nil _)))))) (List.Sublist.refl _) ?_
  · exact ⟨Nat.le_refl _, by omega, hl, fun h => srt_one (by omega), fun x hx => hx⟩
  · rintro ⟨i, o⟩ ⟨hi1, hi2, hol, ho, hmem⟩
    show Run _ _ _ _ _ [(0, .slice (some a) m c), (1, .int .i64 0), (2, .int .i64 (m : Int)), (3, .func (.func f) #[] #[]), (8, .int .i64 (i : Int))] [.row (some a) c 85 1 m (o.flatMap InR.enc)] _
    refine Run.seq ?_
    refine Run.seq ?_
    refine Run.quiet (by intro h; cases h) ?_
    refine QOps.st rfl rfl (Yv.move rfl).yl ?_
    refine QOps.st rfl rfl (Yv.move rfl).yl ?_
    refine QOps.st rfl rfl (Yv.lss rfl rfl).yl ?_
    refine QOps.nil ?_
    refine Run.cond rfl (fun hc1 => ?_) (fun hc1 => ?_)
    · try replace hc1 := of_decide_eq_true hc1
      refine Run.skip ?_
      refine Run.seq ?_
      refine Run.block ?_
      refine Run.seq ?_
      refine Run.quiet (by intro h; cases h) ?_
      refine QOps.st rfl rfl (Yv.move rfl).yl ?_
      refine QOps.st rfl rfl (Yv.assign rfl).yl ?_
      refine QOps.nil ?_
      refine Run.block ?_
      refine Run.loop (S := Nat × List (InR Int)) (fun s => match s with | (j, o) => j ≤ i ∧ o.length = m ∧ (∀ x ∈ o, x ∈ l) ∧ o = midL (srtL (ltC cf) l i) (nth l i) (l.drop (i + 1)) j ∧ posL (ltC cf) (nth l i) (srtL (ltC cf) l i) i = posL (ltC cf) (nth l i) (srtL (ltC cf) l i) j) (fun s => match s with | (j, o) => [(0, .slice (some a) m c), (1, .int .i64 0), (2, .int .i64 (m : Int)), (3, .func (.func f) #[] #[]), (8, .int .i64 (i : Int)), (9, .int .i64 (j : Int))]) (fun s => match s with | (j, o) => [.row (some a) c 85 1 m (o.flatMap InR.enc)]) (fun s => match s with | (j, o) => j) (i, o) ?_ (SubE.cons rfl (SubE.cons rfl (SubE.cons rfl (SubE.cons rfl (SubE.cons rfl (SubE.cons rfl (SubE.nil _))))))) (List.Sublist.refl _) ?_
      · exact ⟨Nat.le_refl _, hol, hmem, by rw [ho (by omega)]; exact midL_start (by omega), rfl⟩
      · rintro ⟨j, o⟩ ⟨hj, hol, hmem, hoj, hp⟩
        show Run _ _ _ _ _ [(0, .slice (some a) m c), (1, .int .i64 0), (2, .int .i64 (m : Int)), (3, .func (.func f) #[] #[]), (8, .int .i64 (i : Int)), (9, .int .i64 (j : Int))] [.row (some a) c 85 1 m (o.flatMap InR.enc)] _
        refine Run.seq ?_
        refine Run.seq ?_
        refine Run.quiet (fun _ => ⟨by kernel_rfl, by kernel_rfl⟩) ?_
        refine QOps.st rfl rfl (Yv.move rfl).yl ?_
        refine QOps.st rfl rfl (Yv.move rfl).yl ?_
        refine QOps.st rfl rfl (Yv.gtr rfl rfl).yl ?_
        refine QOps.st rfl rfl (Yv.move rfl).yl ?_
        refine' QOps.and [_, _, _, _, _, _, _, _, _, _, _, _] _ (.tmp 33) rfl rfl rfl rfl rfl rfl (fun hg1 => ?_) ?_
        rotate_left
        · try replace hg1 := of_decide_eq_true hg1
          refine QOps.st rfl rfl (Yv.move rfl).yl ?_
          refine QOps.st rfl rfl (Yv.move rfl).yl ?_
          refine QOps.st rfl rfl (Yv.move rfl).yl ?_
          refine QOps.st rfl rfl (Yv.indexAddrS j el56 rfl rfl rfl (by omega)).yl ?_
          refine QOps.st rfl rfl (Yv.loadE (k := j) lay85 rfl InR.len (Rd.row (i := 0) rfl) (by first | omega | (simp; omega)) rfl).yl ?_
          refine QOps.st rfl rfl (Yv.move rfl).yl ?_
          refine QOps.st rfl rfl (Yv.move rfl).yl ?_
          refine QOps.st rfl rfl (Yv.sub rfl rfl (by omega)).yl ?_
          refine QOps.st rfl rfl (Yv.indexAddrS (j - 1) el56 rfl rfl (by omega) (by omega)).yl ?_
          refine QOps.st rfl rfl (Yv.loadE (k := (j - 1)) lay85 rfl InR.len (Rd.row (i := 0) rfl) (by first | omega | (simp; omega)) rfl).yl ?_
          refine QOps.st rfl rfl (Yl.callV rfl hf (.cons rfl (.cons rfl (.nil))) (fun w' hw' => hcl w' hw'.bel (nth o j) (nth o (j - 1)) (hmem _ (nthMem (by omega))) (hmem _ (nthMem (by omega))))) ?_
          refine QOps.st rfl rfl (Yv.lss rfl rfl).yl ?_
          exact QOps.nil rfl
        refine QOps.nil ?_
        refine Run.cond rfl (fun hc2 => ?_) (fun hc2 => ?_)
        · try replace hc2 := of_decide_eq_true hc2
          have hj0 : 0 < j := by simp at hc2; omega
          have hlt : ltC cf (nth l i) (nth (srtL (ltC cf) l i) (j - 1)) = true := by
                rw [Bool.and_eq_true] at hc2
                have h9 := hc2.2
                rw [hoj, midL_at (by rw [srtL_len]; exact hj), midL_prev hj0 (by rw [srtL_len]; exact hj)] at h9
                exact h9
          refine Run.skip ?_
          refine Run.seq ?_
          refine Run.block ?_
          refine Run.draws (fun H => (H).eraseIdx 0) (m := 18) (listed := #[false, false, false, false, false, false, false, false, false, false, false, false, false, false, false, false, false, false]) (by kernel_rfl) rfl rfl ?_
          refine DOps.take (listed' := #[true, false, false, false, false, false, false, false, false, false, false, false, false, false, false, false, false, false]) 0 rfl (by kernel_rfl) rfl (List.nil_sublist _) rfl rfl (Yv.move rfl) ?_
          refine DOps.take (listed' := #[true, true, false, false, false, false, false, false, false, false, false, false, false, false, false, false, false, false]) 1 rfl (by kernel_rfl) rfl (List.nil_sublist _) rfl rfl (Yv.move rfl) ?_
          refine DOps.take (listed' := #[true, true, true, false, false, false, false, false, false, false, false, false, false, false, false, false, false, false]) 2 rfl (by kernel_rfl) rfl (List.nil_sublist _) rfl rfl (Yv.move rfl) ?_
          refine DOps.take (listed' := #[true, true, true, true, false, false, false, false, false, false, false, false, false, false, false, false, false, false]) 3 rfl (by kernel_rfl) rfl (List.nil_sublist _) rfl rfl (Yv.move rfl) ?_
          refine DOps.take (listed' := #[true, true, true, true, true, false, false, false, false, false, false, false, false, false, false, false, false, false]) 4 rfl (by kernel_rfl) rfl (List.nil_sublist _) rfl rfl (Yv.sub rfl rfl (by omega)) ?_
          refine DOps.take (listed' := #[true, true, true, true, true, true, false, false, false, false, false, false, false, false, false, false, false, false]) 5 rfl (by kernel_rfl) rfl (List.nil_sublist _) rfl rfl (Yv.move rfl) ?_
          refine DOps.take (listed' := #[true, true, true, true, true, true, true, false, false, false, false, false, false, false, false, false, false, false]) 6 rfl (by kernel_rfl) rfl (List.nil_sublist _) rfl rfl (Yv.move rfl) ?_
          refine DOps.take (listed' := #[true, true, true, true, true, true, true, true, false, false, false, false, false, false, false, false, false, false]) 7 rfl (by kernel_rfl) rfl (List.nil_sublist _) rfl rfl (Yv.sub rfl rfl (by omega)) ?_
          refine DOps.take (listed' := #[true, true, true, true, true, true, true, true, true, false, false, false, false, false, false, false, false, false]) 8 rfl (by kernel_rfl) rfl (List.nil_sublist _) rfl rfl (Yv.indexAddrS (j - 1) el56 rfl rfl (by omega) (by omega)) ?_
          refine DOps.take (listed' := #[true, true, true, true, true, true, true, true, true, false, true, false, false, false, false, false, false, false]) 10 rfl (by kernel_rfl) rfl (List.nil_sublist _) rfl rfl (Yv.move rfl) ?_
          refine DOps.take (listed' := #[true, true, true, true, true, true, true, true, true, false, true, true, false, false, false, false, false, false]) 11 rfl (by kernel_rfl) rfl (List.nil_sublist _) rfl rfl (Yv.move rfl) ?_
          refine DOps.take (listed' := #[true, true, true, true, true, true, true, true, true, false, true, true, true, false, false, false, false, false]) 12 rfl (by kernel_rfl) rfl (List.nil_sublist _) rfl rfl (Yv.indexAddrS j el56 rfl rfl rfl (by omega)) ?_
          refine DOps.fork2 (l1 := #[true, true, true, true, true, true, true, true, true, true, true, true, true, false, false, false, false, false]) (l2 := #[true, true, true, true, true, true, true, true, true, false, true, true, true, true, false, false, false, false]) 9 13 rfl rfl (by kernel_rfl) rfl rfl rfl rfl ?_ ?_
          ·
            refine One.st rfl (Yv.loadE (k := (j - 1)) lay85 rfl InR.len (Rd.row (i := 0) rfl) (by first | omega | (simp; omega)) rfl).yl ?_
            refine ⟨(List.nil_sublist _), ?_⟩
            refine DOps.only (listed' := #[true, true, true, true, true, true, true, true, true, true, true, true, true, true, false, false, false, false]) 13 rfl (by kernel_rfl) rfl rfl ?_
            refine One.st rfl (Yv.loadE (k := j) lay85 rfl InR.len (Rd.row (i := 0) rfl) (by first | omega | (simp; omega)) rfl).yl ?_
            refine ⟨(List.nil_sublist _), ?_⟩
            refine DOps.take (listed' := #[true, true, true, true, true, true, true, true, true, true, true, true, true, true, true, false, false, false]) 14 rfl (by kernel_rfl) rfl (List.nil_sublist _) rfl rfl (Yv.indexAddrS j el56 rfl rfl rfl (by omega)) ?_
            refine DOps.only (listed' := #[true, true, true, true, true, true, true, true, true, true, true, true, true, true, true, true, false, false]) 15 rfl (by kernel_rfl) rfl rfl ?_
            refine One.storeE (i := 0) (k := j) (f := 0) (H' := [_]) (e := nth o (j - 1)) lay85 rfl rfl rfl InR.len rfl (by decide) rfl rfl rfl hol (by omega) rfl ?_
            refine ⟨(List.nil_sublist _), ?_⟩
            refine DOps.take (listed' := #[true, true, true, true, true, true, true, true, true, true, true, true, true, true, true, true, true, false]) 16 rfl (by kernel_rfl) rfl (List.nil_sublist _) rfl rfl (Yv.indexAddrS (j - 1) el56 rfl rfl (by omega) (by omega)) ?_
            refine DOps.only (listed' := #[true, true, true, true, true, true, true, true, true, true, true, true, true, true, true, true, true, true]) 17 rfl (by kernel_rfl) rfl rfl ?_
            refine One.storeE (i := 0) (k := (j - 1)) (f := 0) (H' := [_]) (e := nth o j) lay85 rfl rfl rfl InR.len rfl (by decide) rfl rfl rfl (by simpa using hol) (by rw [List.length_set]; omega) rfl ?_
            refine ⟨(List.nil_sublist _), ?_⟩
            refine DOps.done (by kernel_rfl) ?_
            refine Run.quiet (by intro h; cases h) ?_
            refine QOps.st rfl rfl (Yv.move rfl).yl ?_
            refine QOps.st rfl rfl (Yv.sub rfl rfl (by omega)).yl ?_
            refine QOps.st rfl rfl (Yv.assign rfl).yl ?_
            refine QOps.nil ?_
            refine ⟨(j - 1, _), ?_, ?_, (SubE.cons rfl (SubE.cons rfl (SubE.cons rfl (SubE.cons rfl (SubE.cons rfl (SubE.cons (congrArg some (by congr 1; omega)) (SubE.nil _))))))), (List.Sublist.refl _)⟩
            · exact ⟨by omega, by simpa using hol, mem_swap hmem (hmem _ (nthMem (by omega))) (hmem _ (nthMem (by omega))), by rw [hoj]; exact midL_swap' hj0 (by rw [srtL_len]; exact hj), hp.trans (posL_step hj0 hlt)⟩
            · first | omega | (dsimp only; omega)
          ·
            refine One.st rfl (Yv.loadE (k := j) lay85 rfl InR.len (Rd.row (i := 0) rfl) (by first | omega | (simp; omega)) rfl).yl ?_
            refine ⟨(List.nil_sublist _), ?_⟩
            refine DOps.only (listed' := #[true, true, true, true, true, true, true, true, true, true, true, true, true, true, false, false, false, false]) 9 rfl (by kernel_rfl) rfl rfl ?_
            refine One.st rfl (Yv.loadE (k := (j - 1)) lay85 rfl InR.len (Rd.row (i := 0) rfl) (by first | omega | (simp; omega)) rfl).yl ?_
            refine ⟨(List.nil_sublist _), ?_⟩
            refine DOps.take (listed' := #[true, true, true, true, true, true, true, true, true, true, true, true, true, true, true, false, false, false]) 14 rfl (by kernel_rfl) rfl (List.nil_sublist _) rfl rfl (Yv.indexAddrS j el56 rfl rfl rfl (by omega)) ?_
            refine DOps.only (listed' := #[true, true, true, true, true, true, true, true, true, true, true, true, true, true, true, true, false, false]) 15 rfl (by kernel_rfl) rfl rfl ?_
            refine One.storeE (i := 0) (k := j) (f := 0) (H' := [_]) (e := nth o (j - 1)) lay85 rfl rfl rfl InR.len rfl (by decide) rfl rfl rfl hol (by omega) rfl ?_
            refine ⟨(List.nil_sublist _), ?_⟩
            refine DOps.take (listed' := #[true, true, true, true, true, true, true, true, true, true, true, true, true, true, true, true, true, false]) 16 rfl (by kernel_rfl) rfl (List.nil_sublist _) rfl rfl (Yv.indexAddrS (j - 1) el56 rfl rfl (by omega) (by omega)) ?_
            refine DOps.only (listed' := #[true, true, true, true, true, true, true, true, true, true, true, true, true, true, true, true, true, true]) 17 rfl (by kernel_rfl) rfl rfl ?_
            refine One.storeE (i := 0) (k := (j - 1)) (f := 0) (H' := [_]) (e := nth o j) lay85 rfl rfl rfl InR.len rfl (by decide) rfl rfl rfl (by simpa using hol) (by rw [List.length_set]; omega) rfl ?_
            refine ⟨(List.nil_sublist _), ?_⟩
            refine DOps.done (by kernel_rfl) ?_
            refine Run.quiet (by intro h; cases h) ?_
            refine QOps.st rfl rfl (Yv.move rfl).yl ?_
            refine QOps.st rfl rfl (Yv.sub rfl rfl (by omega)).yl ?_
            refine QOps.st rfl rfl (Yv.assign rfl).yl ?_
            refine QOps.nil ?_
            refine ⟨(j - 1, _), ?_, ?_, (SubE.cons rfl (SubE.cons rfl (SubE.cons rfl (SubE.cons rfl (SubE.cons rfl (SubE.cons (congrArg some (by congr 1; omega)) (SubE.nil _))))))), (List.Sublist.refl _)⟩
            · exact ⟨by omega, by simpa using hol, mem_swap hmem (hmem _ (nthMem (by omega))) (hmem _ (nthMem (by omega))), by rw [hoj]; exact midL_swap' hj0 (by rw [srtL_len]; exact hj), hp.trans (posL_step hj0 hlt)⟩
            · first | omega | (dsimp only; omega)
        · try replace hc2 := of_decide_eq_false hc2
          have hst : posL (ltC cf) (nth l i) (srtL (ltC cf) l i) j = j := posL_stop (fun hj0 h => by
                have h8 : (decide (cf (nth o j) (nth o (j - 1)) < 0)) = true := by rw [hoj, midL_at (by rw [srtL_len]; exact hj), midL_prev hj0 (by rw [srtL_len]; exact hj)]; exact h
                rw [h8, decide_eq_true (show (0 : Int) < (j : Int) by omega)] at hc2
                simp at hc2)
          refine Run.exit ?_
          refine Run.quiet (by intro h; cases h) ?_
          refine QOps.st rfl rfl (Yv.move rfl).yl ?_
          refine QOps.st rfl rfl (Yv.succN rfl rfl (by omega)).yl ?_
          refine QOps.st rfl rfl (Yv.assign rfl).yl ?_
          refine QOps.nil ?_
          refine ⟨(i + 1, o), ?_, ?_, (SubE.cons rfl (SubE.cons rfl (SubE.cons rfl (SubE.cons rfl (SubE.cons rfl (SubE.nil _)))))), (List.Sublist.refl _)⟩
          · exact ⟨by omega, by omega, hol, fun _ => by rw [hoj]; exact midL_end (hp.trans hst), hmem⟩
          · first | omega | (dsimp only; omega)
    · try replace hc1 := of_decide_eq_false hc1
      refine Run.exit ?_
      have hoe : o = srtL (ltC cf) l m := by
          rcases hi2 with h | ⟨h, _⟩
          · obtain rfl : i = m := by omega
            rw [ho h, List.drop_of_length_le (by omega), List.append_nil]
          · subst h
            exact List.eq_nil_of_length_eq_zero hol
      subst hoe
      refine retQ.of (.inl rfl) rfl (.nil) (fun w' hw' => ?_)
      exact ⟨rfl, hw'.bel, hw'.ent _ (List.mem_of_getElem? (i := 0) rfl)⟩
theorem insSortN {w : World} {c : Nat} {f : FuncId} (hrow : (HEnt.row none c 85 1 0 []).ok w) :
    Calls Try.prog 92 #[.slice none 0 c, .int .i64 0, .int .i64 0, .func (.func f) #[] #[]] w (RetMut w none c 85 1 0 [] (.tuple #[])) := by
  refine calls_of_run (vs := [_, _, _, _]) (L := [(0, _), (1, _), (2, _), (3, _)]) (n := 53) (F := (Option.map (·.block) (none : Option Addr)).toList) (H := [_]) Try.func92 rfl rfl rfl rfl (HOk.borrowRow hrow) ?_
  refine Run.seq ?_
  refine Run.quiet (by intro h; cases h) ?_
  refine QOps.st rfl rfl (Yv.move rfl).yl ?_
  refine QOps.st rfl rfl (Yv.add rfl rfl (by omega)).yl ?_
  refine QOps.st rfl rfl (Yv.assign rfl).yl ?_
  refine QOps.nil ?_
  refine Run.block ?_
  refine Run.loop (S := Nat) (fun s => match s with | i => i = 1) (fun s => match s with | i => [(0, .slice none 0 c), (1, .int .i64 0), (2, .int .i64 0), (3, .func (.func f) #[] #[]), (8, .int .i64 (i : Int))]) (fun s => match s with | i => [.row none c 85 1 0 []]) (fun s => match s with | i => 1) 1 ?_ (SubE.cons rfl (SubE.cons rfl (SubE.cons rfl (SubE.cons rfl (SubE.cons rfl (SubE.nil _)))))) (List.Sublist.refl _) ?_
  · exact rfl
  · rintro i hi
    show Run _ _ _ _ _ [(0, .slice none 0 c), (1, .int .i64 0), (2, .int .i64 0), (3, .func (.func f) #[] #[]), (8, .int .i64 (i : Int))] [.row none c 85 1 0 []] _
    refine Run.seq ?_
    refine Run.seq ?_
    refine Run.quiet (by intro h; cases h) ?_
    refine QOps.st rfl rfl (Yv.move rfl).yl ?_
    refine QOps.st rfl rfl (Yv.move rfl).yl ?_
    refine QOps.st rfl rfl (Yv.lss rfl rfl).yl ?_
    refine QOps.nil ?_
    refine Run.cond rfl (fun hc1 => ?_) (fun hc1 => ?_)
    · exfalso
      subst hi; simp at hc1
    · try replace hc1 := of_decide_eq_false hc1
      refine Run.exit ?_
      refine retQ.of (.inl rfl) rfl (.nil) (fun w' hw' => ?_)
      exact ⟨rfl, hw'.bel, hw'.ent _ (List.mem_of_getElem? (i := 0) rfl)⟩
theorem insSort_spec {w : World} {A : Option Addr} {c m : Nat} {l : List (InR Int)} {f : FuncId} {cf : InR Int → InR Int → Int} (hrow : (HEnt.row A c 85 1 m (l.flatMap InR.enc)).ok w) (hl : l.length = m) (hm : m ≤ 12) (hf : callable Try.prog f = true) (hcl : ∀ w', Bel (A.map (·.block)).toList w w' → ∀ x y : InR Int, x ∈ l → y ∈ l → Calls Try.prog f (#[] ++ [.slice x.A x.l.length x.c, .slice y.A y.l.length y.c].toArray ++ #[]) w' (RetB w' (.int .i64 (cf x y)))) :
    Calls Try.prog 92 #[.slice A m c, .int .i64 0, .int .i64 (m : Int), .func (.func f) #[] #[]] w
      (RetMut w A c 85 1 m ((srtL (ltC cf) l m).flatMap InR.enc) (.tuple #[])) := by
  cases A with
  | some a => exact insSortS hrow hl (by omega) hf hcl
  | none =>
    have h0 : m = 0 := by
      have h' : w.ownsRow 0 85 1 (.slice none m c) m (l.flatMap InR.enc) := hrow
      rcases h'.2 with ⟨_, h⟩ | ⟨g, cap, cur, hv, _⟩
      · exact h
      · simp at hv
    subst h0
    obtain rfl := List.eq_nil_of_length_eq_zero hl
    exact insSortN hrow
theorem pdq_spec {lim : Int} {w : World} {A : Option Addr} {c m : Nat} {l : List (InR Int)} {f : FuncId} {cf : InR Int → InR Int → Int} (hrow : (HEnt.row A c 85 1 m (l.flatMap InR.enc)).ok w) (hl : l.length = m) (hm : m ≤ 12) (hf : callable Try.prog f = true) (hcl : ∀ w', Bel (A.map (·.block)).toList w w' → ∀ x y : InR Int, x ∈ l → y ∈ l → Calls Try.prog f (#[] ++ [.slice x.A x.l.length x.c, .slice y.A y.l.length y.c].toArray ++ #[]) w' (RetB w' (.int .i64 (cf x y)))) :
    Calls Try.prog 89 #[.slice A m c, .int .i64 0, .int .i64 (m : Int), .int .i64 lim, .func (.func f) #[] #[]] w
      (RetMut w A c 85 1 m ((srtL (ltC cf) l m).flatMap InR.enc) (.tuple #[])) := by
  refine calls_of_run (vs := [_, _, _, _, _]) (L := [(0, _), (1, _), (2, _), (3, _), (4, _)]) (n := 148) (F := (A.map (·.block)).toList) (H := [_]) Try.func89 rfl rfl rfl rfl (HOk.borrowRow hrow) ?_
  refine Run.seq ?_
  refine Run.quiet (by intro h; cases h) ?_
  refine QOps.st rfl rfl (Yv.assign rfl).yl ?_
  refine QOps.nil ?_
  refine Run.seq ?_
  refine Run.quiet (by intro h; cases h) ?_
  refine QOps.st rfl rfl (Yv.assign rfl).yl ?_
  refine QOps.nil ?_
  refine Run.block ?_
  refine Run.loop (S := Nat) (fun s => match s with | i => i = 1) (fun s => match s with | i => [(0, .slice A m c), (1, .int .i64 0), (2, .int .i64 (m : Int)), (3, .int .i64 lim), (4, .func (.func f) #[] #[]), (10, .bool true), (11, .bool true)]) (fun s => match s with | i => [.row A c 85 1 m (l.flatMap InR.enc)]) (fun s => match s with | i => 1) 1 ?_ (SubE.cons rfl (SubE.cons rfl (SubE.cons rfl (SubE.cons rfl (SubE.cons rfl (SubE.cons rfl (SubE.cons rfl (SubE.nil _)))))))) (List.Sublist.refl _) ?_
  · exact rfl
  · rintro i hi
    show Run _ _ _ _ _ [(0, .slice A m c), (1, .int .i64 0), (2, .int .i64 (m : Int)), (3, .int .i64 lim), (4, .func (.func f) #[] #[]), (10, .bool true), (11, .bool true)] [.row A c 85 1 m (l.flatMap InR.enc)] _
    refine Run.block ?_
    refine Run.seq ?_
    refine Run.quiet (by intro h; cases h) ?_
    refine QOps.st rfl rfl (Yv.move rfl).yl ?_
    refine QOps.st rfl rfl (Yv.move rfl).yl ?_
    refine QOps.st rfl rfl (Yv.sub rfl rfl (by omega)).yl ?_
    refine QOps.st rfl rfl (Yv.assign rfl).yl ?_
    refine QOps.nil ?_
    refine Run.seq ?_
    refine Run.seq ?_
    refine Run.quiet (by intro h; cases h) ?_
    refine QOps.st rfl rfl (Yv.move rfl).yl ?_
    refine QOps.st rfl rfl (Yv.leq rfl rfl).yl ?_
    refine QOps.nil ?_
    refine Run.cond rfl (fun hc1 => ?_) (fun hc1 => ?_)
    · try replace hc1 := of_decide_eq_true hc1
      refine Run.seq ?_
      refine Run.ops ?_
      refine SOps.st rfl rfl (Yv.move rfl).yl ?_
      refine SOps.st rfl rfl (Yv.move rfl).yl ?_
      refine SOps.st rfl rfl (Yv.move rfl).yl ?_
      refine SOps.st rfl rfl (Yv.move rfl).yl ?_
      refine SOps.one rfl (One.callMut (i := 0) (H' := [_]) rfl callable92 (.cons rfl (.cons rfl (.cons rfl (.cons rfl (.nil))))) rfl (fun w' hw' => insSort_spec (hw'.ent _ (List.mem_of_getElem? (i := 0) rfl)) hl hm hf (fun w'' hb => hcl w'' (hw'.bel.trans hb (fun x hx => .inr hx)))) rfl ?_)
      refine SOps.nil ?_
      refine Run.ret ?_
      refine retQ.of (.inr rfl) rfl (.nil) (fun w' hw' => ?_)
      exact ⟨rfl, hw'.bel, hw'.ent _ (List.mem_of_getElem? (i := 0) rfl)⟩
    · exfalso
      simp at hc1; omega
theorem Len64_spec {w : World} {k : Nat} (hk : k ≤ 200) : Calls Try.prog 101 #[.int .u64 (k : Int)] w (RetE w (fun (x : Int) => .int .i64 x) (fun _ => True)) := by
  refine calls_of_run (vs := [_]) (L := [(0, _)]) (n := 25) (F := []) (H := []) Try.func101 rfl rfl rfl rfl (HOk.start _) ?_
  refine Run.seq ?_
  refine Run.quiet (by intro h; cases h) ?_
  refine QOps.st rfl rfl (Yv.assign rfl).yl ?_
  refine QOps.nil ?_
  refine Run.seq ?_
  refine Run.seq ?_
  refine Run.quiet (by intro h; cases h) ?_
  refine QOps.st rfl rfl (Yv.move rfl).yl ?_
  refine QOps.st rfl rfl (Yv.geq rfl rfl).yl ?_
  refine QOps.nil ?_
  refine Run.cond rfl (fun hc1 => ?_) (fun hc1 => ?_)
  · exfalso
    simp at hc1; omega
  · try replace hc1 := of_decide_eq_false hc1
    refine Run.skip ?_
    refine Run.seq ?_
    refine Run.seq ?_
    refine Run.quiet (by intro h; cases h) ?_
    refine QOps.st rfl rfl (Yv.move rfl).yl ?_
    refine QOps.st rfl rfl (Yv.geq rfl rfl).yl ?_
    refine QOps.nil ?_
    refine Run.cond rfl (fun hc2 => ?_) (fun hc2 => ?_)
    · exfalso
      simp at hc2; omega
    · try replace hc2 := of_decide_eq_false hc2
      refine Run.skip ?_
      refine Run.seq ?_
      refine Run.seq ?_
      refine Run.quiet (by intro h; cases h) ?_
      refine QOps.st rfl rfl (Yv.move rfl).yl ?_
      refine QOps.st rfl rfl (Yv.geq rfl rfl).yl ?_
      refine QOps.nil ?_
      refine Run.cond rfl (fun hc3 => ?_) (fun hc3 => ?_)
      · exfalso
        simp at hc3; omega
      · try replace hc3 := of_decide_eq_false hc3
        refine Run.skip ?_
        refine Run.seq ?_
        refine Run.quiet (by intro h; cases h) ?_
        refine QOps.st rfl rfl (Yv.move rfl).yl ?_
        refine QOps.st rfl rfl (Yv.move rfl).yl ?_
        refine QOps.st rfl rfl (Yv.conv int78 int5 rfl).yl ?_
        refine QOps.st rfl rfl (Yv.strIdx k str9 rfl rfl (by simp [IntKind.wrap, IntKind.bits, IntKind.signed]; omega) (Nat.lt_of_lt_of_le (show k < 201 by omega) (Nat.le_of_ble_eq_true (by kernel_rfl)))).yl ?_
        refine QOps.st rfl rfl (Yv.conv int5 int3 rfl).yl ?_
        refine QOps.st rfl rfl (Yv.addW rfl rfl).yl ?_
        refine QOps.st rfl rfl (Yv.assign rfl).yl ?_
        refine QOps.nil ?_
        refine Run.ret ?_
        refine retQ.of (.inr rfl) rfl (.tmp rfl .nil) (fun w' hw' => ?_)
        exact ⟨_, rfl, trivial, hw'.bel.below⟩
theorem Len_spec {w : World} {k : Nat} (hk : k ≤ 200) : Calls Try.prog 90 #[.int .u64 (k : Int)] w (RetE w (fun (x : Int) => .int .i64 x) (fun _ => True)) := by
  refine calls_of_run (vs := [_]) (L := [(0, _)]) (n := 8) (F := []) (H := []) Try.func90 rfl rfl rfl rfl (HOk.start _) ?_
  refine Run.seq ?_
  refine Run.quiet (by intro h; cases h) ?_
  refine QOps.st rfl rfl (Yv.assign rfl).yl ?_
  refine QOps.nil ?_
  refine Run.seq ?_
  refine Run.cond rfl (fun hc1 => ?_) (fun hc1 => ?_)
  · exfalso
    cases hc1
  · try replace hc1 := of_decide_eq_false hc1
    refine Run.skip ?_
    refine Run.seq ?_
    refine Run.ops ?_
    refine SOps.st rfl rfl (Yv.move rfl).yl ?_
    refine SOps.one rfl (One.callE rfl callable101 (.cons rfl (.nil)) (fun w' hw' => Len64_spec (by omega)) (fun x1 _ => ?_))
    refine SOps.st rfl rfl (Yv.assign rfl).yl ?_
    refine SOps.nil ?_
    refine Run.ret ?_
    refine retQ.of (.inr rfl) rfl (.tmp rfl .nil) (fun w' hw' => ?_)
    exact ⟨_, rfl, trivial, hw'.bel.below⟩
theorem SortFunc_spec {w : World} {A : Option Addr} {c m : Nat} {l : List (InR Int)} {f : FuncId} {cf : InR Int → InR Int → Int} (hrow : (HEnt.row A c 85 1 m (l.flatMap InR.enc)).ok w) (hl : l.length = m) (hm : m ≤ 12) (hf : callable Try.prog f = true) (hcl : ∀ w', Bel (A.map (·.block)).toList w w' → ∀ x y : InR Int, x ∈ l → y ∈ l → Calls Try.prog f (#[] ++ [.slice x.A x.l.length x.c, .slice y.A y.l.length y.c].toArray ++ #[]) w' (RetB w' (.int .i64 (cf x y)))) :
    Calls Try.prog 74 #[.slice A m c, .func (.func f) #[] #[]] w
      (RetMut w A c 85 1 m ((srtL (ltC cf) l m).flatMap InR.enc) (.tuple #[])) := by
  refine calls_of_run (vs := [_, _]) (L := [(0, _), (1, _)]) (n := 14) (F := (A.map (·.block)).toList) (H := [_]) Try.func74 rfl rfl rfl rfl (HOk.borrowRow hrow) ?_
  refine Run.seq ?_
  refine Run.quiet (by intro h; cases h) ?_
  refine QOps.st rfl rfl (Yv.move rfl).yl ?_
  refine QOps.st rfl rfl (Yv.lenS el56s rfl).yl ?_
  refine QOps.st rfl rfl (Yv.assign rfl).yl ?_
  refine QOps.nil ?_
  refine Run.ops ?_
  refine SOps.st rfl rfl (Yv.move rfl).yl ?_
  refine SOps.st rfl rfl (Yv.move rfl).yl ?_
  refine SOps.st rfl rfl (Yv.move rfl).yl ?_
  refine SOps.st rfl rfl (Yv.convT (j := (m : Int)) int3 int95 rfl (by simp [IntKind.wrap, IntKind.bits, IntKind.signed]; omega)).yl ?_
  refine SOps.one rfl (One.callE rfl callable90 (.cons rfl (.nil)) (fun w' hw' => Len_spec (by omega)) (fun x1 _ => ?_))
  refine SOps.st rfl rfl (Yv.move rfl).yl ?_
  refine SOps.one rfl (One.callMut (i := 0) (H' := [_]) rfl callable89 (.cons rfl (.cons rfl (.cons rfl (.cons rfl (.cons rfl (.nil)))))) rfl (fun w' hw' => pdq_spec (hw'.ent _ (List.mem_of_getElem? (i := 0) rfl)) hl hm hf (fun w'' hb => hcl w'' (hw'.bel.trans hb (fun x hx => .inr hx)))) rfl ?_)
  refine SOps.nil ?_
  refine retQ.of (.inl rfl) rfl (.nil) (fun w' hw' => ?_)
  exact ⟨rfl, hw'.bel, hw'.ent _ (List.mem_of_getElem? (i := 0) rfl)⟩
end Go.Proofs.Ythgekachgpcjbaa
