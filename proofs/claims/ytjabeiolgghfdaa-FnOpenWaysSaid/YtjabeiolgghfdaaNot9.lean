/- Notices: the open stretches, walked; the law. Conditions: none. -/
import Derived.Test.YtjabeiolgghfdaaNot8
import Derived.Test.YtjabeiolgghfdaaTb
namespace Go.Proofs.Ytjabeiolgghfdaa
open Go.RowKit
set_option maxRecDepth 100000
/-- The marks that the inner rows are given, one behind the other. -/
def markTab (rs : List (InR Int)) (j : Int) : List (InR Int) := (List.range rs.length).map fun i => ⟨(nth rs i).A, (nth rs i).c, marks (nth rs i).l.length (j + tot rs i)⟩
theorem markTab_len {rs : List (InR Int)} {j : Int} : (markTab rs j).length = rs.length := by simp [markTab]
theorem markTab_nth {rs : List (InR Int)} {j : Int} {i : Nat} (h : i < rs.length) : nth (markTab rs j) i = ⟨(nth rs i).A, (nth rs i).c, marks (nth rs i).l.length (j + tot rs i)⟩ := by simp [nth, markTab, h]
theorem map_nth {rs rs2 : List (InR Int)} (he : rs.map InR.l = rs2.map InR.l) {k : Nat} (hk : k < rs.length) : (nth rs2 k).l = (nth rs k).l := by
  have hl : rs.length = rs2.length := by simpa using congrArg List.length he
  have h1 : (rs.map InR.l)[k]? = (rs2.map InR.l)[k]? := by rw [he]
  rw [List.getElem?_map, List.getElem?_map, nth_get hk, nth_get (by omega)] at h1
  simpa using h1.symm
theorem inner_ok {w0 w : World} {F : List Nat} {T sz : Nat} {enc : Int → List Value} {o : List (InR Int)} {k : Nat} {x : InR Int} (hk : k < o.length) (hx : nth o k = x) (hw : HOk w0 F (o.map (InR.row T sz enc)) w) : (HEnt.row x.A x.c T sz x.l.length (x.l.flatMap enc)).ok w := by
  subst hx
  exact hw.ent ((nth o k).row T sz enc) (List.mem_map_of_mem (nthMem hk))
theorem eqIntS2_spec {w : World} {A A2 : Option Addr} {c c2 : Nat} {l l2 : List Int} (he : l2 = l) (hs : Sl w 1 A l.length c (l.flatMap intC)) (hs2 : Sl w 1 A2 l2.length c2 (l2.flatMap intC)) :
    Calls Try.prog 27 #[.slice A l.length c, .slice A2 l2.length c2] w (RetB w (.bool true)) := by
  subst he
  exact eqIntS_spec hs hs2
theorem eqIntSS_spec {w : World} {A A2 : Option Addr} {c c2 : Nat} {rs rs2 : List (InR Int)} (hs : Sl w 1 A rs.length c (rs.flatMap InR.enc)) (hs2 : Sl w 1 A2 rs2.length c2 (rs2.flatMap InR.enc)) (hin : ∀ x ∈ rs, x.rd w 1 intC) (hin2 : ∀ x ∈ rs2, x.rd w 1 intC) (he : rs.map InR.l = rs2.map InR.l) :
    Calls Try.prog 36 #[.slice A rs.length c, .slice A2 rs2.length c2] w (RetB w (.bool true)) := by
  have hmx := Sl.lenle hs
  have hl : rs.length = rs2.length := by simpa using congrArg List.length he
  refine calls_of_run (vs := [_, _]) (L := [(0, _), (1, _)]) (n := 27) (F := []) (H := []) Try.func36 rfl rfl rfl rfl (HOk.start _) ?_
  refine Run.seq ?_
  refine Run.quiet (by intro h; cases h) ?_
  refine QOps.st rfl rfl (Yv.assign rfl).yl ?_
  refine QOps.nil ?_
  refine Run.seq ?_
  refine Run.seq ?_
  refine Run.quiet (by intro h; cases h) ?_
  refine QOps.st rfl rfl (Yv.move rfl).yl ?_
  refine QOps.st rfl rfl (Yv.lenS el45s rfl).yl ?_
  refine QOps.st rfl rfl (Yv.move rfl).yl ?_
  refine QOps.st rfl rfl (Yv.lenS el45s rfl).yl ?_
  refine QOps.st rfl rfl (Yv.neI rfl rfl).yl ?_
  refine QOps.nil ?_
  refine Run.cond rfl (fun hc1 => ?_) (fun hc1 => ?_)
  · exfalso
    simp [hl] at hc1
  · try replace hc1 := of_decide_eq_false hc1
    refine Run.skip ?_
    refine Run.seq ?_
    refine Run.seq ?_
    refine Run.quiet (by intro h; cases h) ?_
    refine QOps.st rfl rfl (Yv.assign rfl).yl ?_
    refine QOps.nil ?_
    refine Run.block ?_
    refine Run.loop (S := Nat) (fun s => match s with | k => k ≤ rs.length) (fun s => match s with | k => [(0, .slice A rs.length c), (1, .slice A2 rs2.length c2), (5, .int .i64 (k : Int))]) (fun s => match s with | k => []) (fun s => match s with | k => rs.length - k) 0 ?_ (SubE.cons rfl (SubE.cons rfl (SubE.cons rfl (SubE.nil _)))) (List.Sublist.refl _) ?_
    · exact Nat.zero_le _
    · rintro k hk
      show Run _ _ _ _ _ [(0, .slice A rs.length c), (1, .slice A2 rs2.length c2), (5, .int .i64 (k : Int))] [] _
      refine Run.seq ?_
      refine Run.seq ?_
      refine Run.quiet (by intro h; cases h) ?_
      refine QOps.st rfl rfl (Yv.move rfl).yl ?_
      refine QOps.st rfl rfl (Yv.move rfl).yl ?_
      refine QOps.st rfl rfl (Yv.lenS el45s rfl).yl ?_
      refine QOps.st rfl rfl (Yv.lss rfl rfl).yl ?_
      refine QOps.nil ?_
      refine Run.cond rfl (fun hc2 => ?_) (fun hc2 => ?_)
      · try replace hc2 := of_decide_eq_true hc2
        refine Run.skip ?_
        refine Run.seq ?_
        refine Run.block ?_
        refine Run.seq ?_
        refine Run.quiet (fun _ => ⟨by kernel_rfl, by kernel_rfl⟩) ?_
        refine QOps.st rfl rfl (Yv.move rfl).yl ?_
        refine QOps.st rfl rfl (Yv.move rfl).yl ?_
        refine QOps.st rfl rfl (Yv.indexAddr k el45 rfl rfl rfl (Rd.arg hs) (by omega)).yl ?_
        refine QOps.st rfl rfl (Yv.loadE (k := k) lay36 rfl InR.len (Rd.arg hs) (by first | omega | (simp; omega)) rfl).yl ?_
        refine QOps.st rfl rfl (Yv.move rfl).yl ?_
        refine QOps.st rfl rfl (Yv.move rfl).yl ?_
        refine QOps.st rfl rfl (Yv.indexAddr k el45 rfl rfl rfl (Rd.arg hs2) (by omega)).yl ?_
        refine QOps.st rfl rfl (Yv.loadE (k := k) lay36 rfl InR.len (Rd.arg hs2) (by first | omega | (simp; omega)) rfl).yl ?_
        refine QOps.st rfl rfl (Yl.call callable27 (.cons rfl (.cons rfl (.nil))) (fun w' hw' => eqIntS2_spec (map_nth he (show k < rs.length by omega)) ((Rd.arg (hin _ (nthMem (by omega)))) w' hw') ((Rd.arg (hin2 _ (nthMem (by omega)))) w' hw'))) ?_
        refine QOps.st rfl rfl (Yv.not rfl).yl ?_
        refine QOps.nil ?_
        refine Run.cond rfl (fun hc3 => ?_) (fun hc3 => ?_)
        · exfalso
          simp at hc3
        · try replace hc3 := of_decide_eq_false hc3
          refine Run.skip ?_
          refine Run.quiet (by intro h; cases h) ?_
          refine QOps.st rfl rfl (Yv.move rfl).yl ?_
          refine QOps.st rfl rfl (Yv.succN rfl rfl (by omega)).yl ?_
          refine QOps.st rfl rfl (Yv.assign rfl).yl ?_
          refine QOps.nil ?_
          refine ⟨k + 1, ?_, ?_, (SubE.cons rfl (SubE.cons rfl (SubE.cons rfl (SubE.nil _)))), (List.Sublist.refl _)⟩
          · show k + 1 ≤ _; omega
          · first | omega | (dsimp only; omega)
      · try replace hc2 := of_decide_eq_false hc2
        refine Run.exit ?_
        refine Run.seq ?_
        refine Run.quiet (by intro h; cases h) ?_
        refine QOps.st rfl rfl (Yv.assign rfl).yl ?_
        refine QOps.nil ?_
        refine Run.ret ?_
        refine retQ.of (.inr rfl) rfl (.tmp rfl .nil) (fun w' hw' => ?_)
        refine ⟨?_, hw'.bel.below⟩
        exact rfl
theorem heldIntSS_spec {w : World} {A : Option Addr} {c : Nat} {rs : List (InR Int)} {j0 : Int} (hs : Sl w 1 A rs.length c (rs.flatMap InR.enc)) (hin : ∀ x ∈ markTab rs j0, x.rd w 1 intC) (ht : tot rs rs.length ≤ 1048576) (h1 : 0 ≤ j0) (h2 : j0 ≤ 4000000000000000000) :
    Calls Try.prog 38 #[.slice A rs.length c, .int .i64 j0] w (RetB w (.int .i64 (j0 + tot rs rs.length))) := by
  have hmx := Sl.lenle hs
  have hin2 : ∀ k, k < rs.length → Sl w 1 (nth rs k).A (nth rs k).l.length (nth rs k).c ((marks (nth rs k).l.length (j0 + tot rs k)).flatMap intC) := fun k hk => by
    have h3 := hin _ (nthMem (show k < (markTab rs j0).length by rw [markTab_len]; exact hk))
    rw [markTab_nth hk] at h3
    unfold InR.rd at h3
    simpa [marks_len] using h3
  refine calls_of_run (vs := [_, _]) (L := [(0, _), (1, _)]) (n := 21) (F := []) (H := []) Try.func38 rfl rfl rfl rfl (HOk.start _) ?_
  refine Run.seq ?_
  refine Run.quiet (by intro h; cases h) ?_
  refine QOps.st rfl rfl (Yv.assign rfl).yl ?_
  refine QOps.nil ?_
  refine Run.seq ?_
  refine Run.seq ?_
  refine Run.quiet (by intro h; cases h) ?_
  refine QOps.st rfl rfl (Yv.assign rfl).yl ?_
  refine QOps.nil ?_
  refine Run.block ?_
  refine Run.loop (S := Nat) (fun s => match s with | k => k ≤ rs.length) (fun s => match s with | k => [(0, .slice A rs.length c), (1, .int .i64 (j0 + tot rs k)), (5, .int .i64 (k : Int))]) (fun s => match s with | k => []) (fun s => match s with | k => rs.length - k) 0 ?_ (SubE.cons rfl (SubE.cons (congrArg some (by congr 1; rw [tot]; omega)) (SubE.cons rfl (SubE.nil _)))) (List.Sublist.refl _) ?_
  · exact Nat.zero_le _
  · rintro k hk
    show Run _ _ _ _ _ [(0, .slice A rs.length c), (1, .int .i64 (j0 + tot rs k)), (5, .int .i64 (k : Int))] [] _
    refine Run.seq ?_
    refine Run.seq ?_
    refine Run.quiet (by intro h; cases h) ?_
    refine QOps.st rfl rfl (Yv.move rfl).yl ?_
    refine QOps.st rfl rfl (Yv.move rfl).yl ?_
    refine QOps.st rfl rfl (Yv.lenS el45s rfl).yl ?_
    refine QOps.st rfl rfl (Yv.lss rfl rfl).yl ?_
    refine QOps.nil ?_
    refine Run.cond rfl (fun hc1 => ?_) (fun hc1 => ?_)
    · try replace hc1 := of_decide_eq_true hc1
      have htk := tot_nonneg (rs := rs) (k := k)
      have htk1 := tot_mono (rs := rs) (show k + 1 ≤ rs.length by omega)
      have htk2 : tot rs (k + 1) = tot rs k + (nth rs k).l.length := rfl
      refine Run.skip ?_
      refine Run.seq ?_
      refine Run.block ?_
      refine Run.seq ?_
      refine Run.quiet (by intro h; cases h) ?_
      refine QOps.st rfl rfl (Yv.move rfl).yl ?_
      refine QOps.st rfl rfl (Yv.move rfl).yl ?_
      refine QOps.st rfl rfl (Yv.indexAddr k el45 rfl rfl rfl (Rd.arg hs) (by omega)).yl ?_
      refine QOps.st rfl rfl (Yv.loadE (k := k) lay36 rfl InR.len (Rd.arg hs) (by first | omega | (simp; omega)) rfl).yl ?_
      refine QOps.st rfl rfl (Yv.move rfl).yl ?_
      refine QOps.st rfl rfl (Yl.call callable30 (.cons rfl (.cons rfl (.nil))) (fun w' hw' => heldIntS_spec ((Rd.arg (hin2 _ (by omega))) w' hw') (by omega) (by omega) (by omega))) ?_
      refine QOps.st rfl rfl (Yv.assign rfl).yl ?_
      refine QOps.nil ?_
      refine Run.seq ?_
      refine Run.quiet (by intro h; cases h) ?_
      refine QOps.st rfl rfl (Yv.move rfl).yl ?_
      refine QOps.st rfl rfl (Yv.lss rfl rfl).yl ?_
      refine QOps.nil ?_
      refine Run.cond rfl (fun hc2 => ?_) (fun hc2 => ?_)
      · exfalso
        simp at hc2; omega
      · try replace hc2 := of_decide_eq_false hc2
        refine Run.skip ?_
        refine Run.quiet (by intro h; cases h) ?_
        refine QOps.st rfl rfl (Yv.move rfl).yl ?_
        refine QOps.st rfl rfl (Yv.succN rfl rfl (by omega)).yl ?_
        refine QOps.st rfl rfl (Yv.assign rfl).yl ?_
        refine QOps.nil ?_
        refine ⟨k + 1, ?_, ?_, (SubE.cons rfl (SubE.cons (congrArg some (by congr 1; rw [tot]; omega)) (SubE.cons rfl (SubE.nil _)))), (List.Sublist.refl _)⟩
        · show k + 1 ≤ _; omega
        · first | omega | (dsimp only; omega)
    · try replace hc1 := of_decide_eq_false hc1
      refine Run.exit ?_
      refine Run.seq ?_
      refine Run.quiet (by intro h; cases h) ?_
      refine QOps.st rfl rfl (Yv.move rfl).yl ?_
      refine QOps.st rfl rfl (Yv.assign rfl).yl ?_
      refine QOps.nil ?_
      refine Run.ret ?_
      obtain rfl : k = rs.length := by omega
      refine retQ.of (.inr rfl) rfl (.tmp rfl .nil) (fun w' hw' => ?_)
      refine ⟨?_, hw'.bel.below⟩
      exact rfl
theorem markIntSS_spec {w : World} {A : Option Addr} {c : Nat} {rs : List (InR Int)} {j0 : Int} (hw : HOk w (blks (rs.map (InR.row 3 1 intC))) (rs.map (InR.row 3 1 intC)) w) (hs : Sl w 1 A rs.length c (rs.flatMap InR.enc)) (hne : 0 < rs.length → (adr A).block ∉ blks (rs.map (InR.row 3 1 intC))) (ht : tot rs rs.length ≤ 1048576) (h1 : 0 ≤ j0) (h2 : j0 ≤ 4000000000000000000) :
    Calls Try.prog 37 #[.slice A rs.length c, .int .i64 j0] w (RetH w (rs.map (InR.row 3 1 intC)) (fun (_ : Unit) => (markTab rs j0).map (InR.row 3 1 intC)) (fun _ => .int .i64 (j0 + tot rs rs.length)) (fun _ => True)) := by
  have hmx := Sl.lenle hs
  refine calls_of_run (vs := [_, _]) (L := [(0, _), (1, _)]) (n := 19) (F := blks _) (H := _) Try.func37 rfl rfl rfl rfl hw ?_
  refine Run.seq ?_
  refine Run.quiet (by intro h; cases h) ?_
  refine QOps.st rfl rfl (Yv.assign rfl).yl ?_
  refine QOps.nil ?_
  refine Run.seq ?_
  refine Run.seq ?_
  refine Run.quiet (by intro h; cases h) ?_
  refine QOps.st rfl rfl (Yv.assign rfl).yl ?_
  refine QOps.nil ?_
  refine Run.block ?_
  refine Run.loop (S := Nat × List (InR Int)) (fun s => match s with | (k, o) => k ≤ rs.length ∧ o.length = rs.length ∧ (∀ x, x < k → nth o x = nth (markTab rs j0) x) ∧ ∀ x, k ≤ x → nth o x = nth rs x) (fun s => match s with | (k, o) => [(0, .slice A rs.length c), (1, .int .i64 (j0 + tot rs k)), (5, .int .i64 (k : Int))]) (fun s => match s with | (k, o) => (o.map (InR.row 3 1 intC))) (fun s => match s with | (k, o) => rs.length - k) (0, rs) ?_ (SubE.cons rfl (SubE.cons (congrArg some (by congr 1; rw [tot]; omega)) (SubE.cons rfl (SubE.nil _)))) (List.Sublist.refl _) ?_
  · exact ⟨Nat.zero_le _, rfl, fun x hx => by omega, fun x _ => rfl⟩
  · rintro ⟨k, o⟩ ⟨hk, hol, hlo, hor⟩
    show Run _ _ _ _ _ [(0, .slice A rs.length c), (1, .int .i64 (j0 + tot rs k)), (5, .int .i64 (k : Int))] (o.map (InR.row 3 1 intC)) _
    refine Run.seq ?_
    refine Run.seq ?_
    refine Run.quiet (by intro h; cases h) ?_
    refine QOps.st rfl rfl (Yv.move rfl).yl ?_
    refine QOps.st rfl rfl (Yv.move rfl).yl ?_
    refine QOps.st rfl rfl (Yv.lenS el45s rfl).yl ?_
    refine QOps.st rfl rfl (Yv.lss rfl rfl).yl ?_
    refine QOps.nil ?_
    refine Run.cond rfl (fun hc1 => ?_) (fun hc1 => ?_)
    · try replace hc1 := of_decide_eq_true hc1
      have htk := tot_nonneg (rs := rs) (k := k)
      have htk1 := tot_mono (rs := rs) (show k + 1 ≤ rs.length by omega)
      have htk2 : tot rs (k + 1) = tot rs k + (nth rs k).l.length := rfl
      refine Run.skip ?_
      refine Run.seq ?_
      refine Run.block ?_
      refine Run.ops ?_
      refine SOps.st rfl rfl (Yv.move rfl).yl ?_
      refine SOps.st rfl rfl (Yv.move rfl).yl ?_
      refine SOps.st rfl rfl (Yv.indexAddr k el45 rfl rfl rfl (Rd.argN hs hne) (by omega)).yl ?_
      refine SOps.st rfl rfl (Yv.loadE (k := k) lay36 rfl InR.len (Rd.argN hs hne) (by first | omega | (simp; omega)) rfl).yl ?_
      refine SOps.st rfl rfl (Yv.move rfl).yl ?_
      refine SOps.one rfl (One.callMutIn (k := k) (x := nth rs k) (l' := marks (nth rs k).l.length (j0 + tot rs k)) rfl callable29 (.cons rfl (.cons rfl (.nil))) (by omega) (hor k (Nat.le_refl _)) (marks_len _ _) (fun w' hw' => markIntS_spec (inner_ok (by omega) (hor k (Nat.le_refl _)) hw') (by omega) (by omega) (by omega)) ?_)
      refine SOps.st rfl rfl (Yv.assign rfl).yl ?_
      refine SOps.nil ?_
      refine Run.quiet (by intro h; cases h) ?_
      refine QOps.st rfl rfl (Yv.move rfl).yl ?_
      refine QOps.st rfl rfl (Yv.succN rfl rfl (by omega)).yl ?_
      refine QOps.st rfl rfl (Yv.assign rfl).yl ?_
      refine QOps.nil ?_
      refine ⟨(k + 1, _), ?_, ?_, (SubE.cons rfl (SubE.cons (congrArg some (by congr 1; rw [tot]; omega)) (SubE.cons rfl (SubE.nil _)))), (List.Sublist.refl _)⟩
      · exact ⟨by omega, by simpa using hol, all_succ (fun i hi => by rw [nth_set_ne (by omega)]; exact hlo i hi) (by rw [nth_set_self (by omega), markTab_nth (by omega)]), fun x hx => by rw [nth_set_ne (by omega)]; exact hor x (by omega)⟩
      · first | omega | (dsimp only; omega)
    · try replace hc1 := of_decide_eq_false hc1
      refine Run.exit ?_
      refine Run.seq ?_
      refine Run.quiet (by intro h; cases h) ?_
      refine QOps.st rfl rfl (Yv.move rfl).yl ?_
      refine QOps.st rfl rfl (Yv.assign rfl).yl ?_
      refine QOps.nil ?_
      refine Run.ret ?_
      obtain rfl : k = rs.length := by omega
      obtain rfl : o = markTab rs j0 := eq_of_nth (by rw [hol, markTab_len]) (fun i hi => by rw [markTab_len] at hi; exact hlo i hi)
      refine retQ.of (.inr rfl) rfl (.tmp rfl .nil) (fun w' hw' => ?_)
      exact ⟨(), rfl, trivial, hw'⟩

theorem rs_two {rs : List (InR Int)} {ls : List (List Int)} (h : rs.map InR.l = ls) (h2 : ∀ x ∈ ls, x.length = 2) : ∀ x ∈ rs, x.l.length = 2 := fun x hx => h2 _ (by rw [← h]; exact List.mem_map_of_mem hx)
def openD (ns : List Notice) (day : Int) : Nat → Bool := fun k => openDay ns (k : Int) (k : Int) day
def strL (ns : List Notice) (day : Int) : List (List Int) := if endOk ns day = true then strTo (openD ns day) 601 else []
theorem strL_two {ns : List Notice} {day : Int} : ∀ x ∈ strL ns day, x.length = 2 := fun x hx => by
  unfold strL at hx
  split at hx
  · exact strTo_two x hx
  · simp at hx
theorem strL_len {ns : List Notice} {day : Int} : (strL ns day).length ≤ 601 := by
  unfold strL
  split
  · exact strTo_len
  · simp
theorem long_rs {rs : List (InR Int)} {op : Nat → Bool} {k : Nat} (hrs : rs.map InR.l = strTo op k) : longer (strTo op k) k = (decide (0 < rs.length) && decide (nth (nth rs (rs.length - 1)).l 1 = (k : Int) - 1)) := by
  have hl : (strTo op k).length = rs.length := by rw [← hrs]; simp
  unfold longer lastEnd
  rw [hl]
  by_cases h : 0 < rs.length
  · rw [← hrs, nth_mapl (by omega)]
  · rw [decide_eq_false h]; rfl
theorem more_rs {rs : List (InR Int)} {op : Nat → Bool} {k : Nat} (hrs : rs.map InR.l = strTo op k) (h0 : 0 < rs.length) (h : op k = true) (h2 : longer (strTo op k) k = true) {x : InR Int} (hx : x.l = [nth (nth rs (rs.length - 1)).l 0, (k : Int)]) : (rs.set (rs.length - 1) x).map InR.l = strTo op (k + 1) := by
  have hl : (strTo op k).length = rs.length := by rw [← hrs]; simp
  rw [strTo_more h h2, hl, List.map_set, hrs, hx]
  rw [← hrs, nth_mapl (by omega)]
theorem OpenStretches_spec {w : World} {A : Option Addr} {c : Nat} {ns : List Notice} {day : Int} (hs : Sl w 7 A ns.length c (ns.flatMap Notice.enc)) :
    Calls Try.prog 35 #[.slice A ns.length c, .int .i64 day] w (RetTab w 36 3 1 intC (strL ns day) (fun x => .tuple #[x, .bool (endOk ns day)])) := by
  have hmx := Sl.lenle hs
  refine calls_of_run (vs := [_, _]) (L := [(0, _), (1, _)]) (n := 53) (F := []) (H := []) Try.func35 rfl rfl rfl rfl (HOk.start _) ?_
  refine Run.seq ?_
  refine Run.quiet (by intro h; cases h) ?_
  refine QOps.st rfl rfl (Yv.assign rfl).yl ?_
  refine QOps.st rfl rfl (Yv.assign rfl).yl ?_
  refine QOps.nil ?_
  refine Run.seq ?_
  refine Run.seq ?_
  refine Run.quiet (by intro h; cases h) ?_
  refine QOps.st rfl rfl (Yv.move rfl).yl ?_
  refine QOps.st rfl rfl (Yv.move rfl).yl ?_
  refine QOps.st rfl rfl (Yl.call callable52 (.cons rfl (.cons rfl (.cons rfl (.cons rfl (.nil))))) (fun w' hw' => isTrip_spec ((Rd.arg hs) w' hw'))) ?_
  refine QOps.st rfl rfl (Yv.not rfl).yl ?_
  refine QOps.nil ?_
  refine Run.cond rfl (fun hc1 => ?_) (fun hc1 => ?_)
  · try replace hc1 := of_decide_eq_true hc1
    have hn : endOk ns day = false := by unfold endOk; revert hc1; unfold asked; cases areNotices ns <;> cases inB day 0 365 <;> simp [inB]
    refine Run.seq ?_
    refine Run.quiet (by intro h; cases h) ?_
    refine QOps.st rfl rfl (Yv.assign rfl).yl ?_
    refine QOps.st rfl rfl (Yv.assign rfl).yl ?_
    refine QOps.nil ?_
    refine Run.ret ?_
    refine retQ.of (.inr rfl) rfl (.tmp rfl (.tmp rfl .nil)) (fun w' hw' => ?_)
    unfold strL; rw [if_neg (by rw [hn]; simp), hn]
    exact retTab_nil hw' rfl
  · try replace hc1 := of_decide_eq_false hc1
    have hy : endOk ns day = true := by unfold endOk; revert hc1; unfold asked; cases areNotices ns <;> cases inB day 0 365 <;> simp [inB]
    have hway := asked_way (by simpa using hc1 : asked ns 0 0 day = true)
    refine Run.skip ?_
    refine Run.seq ?_
    refine Run.ops ?_
    refine SOps.one rfl (One.buildSliceG (pv := []) (cs := []) (fun _ => []) rfl el45 .nil rfl rfl (by kernel_rfl) rfl rfl (fun b1 => ?_))
    refine SOps.st rfl rfl (Yv.assign rfl).yl ?_
    refine SOps.nil ?_
    refine Run.seq ?_
    refine Run.seq ?_
    refine Run.quiet (by intro h; cases h) ?_
    refine QOps.st rfl rfl (Yv.assign rfl).yl ?_
    refine QOps.nil ?_
    refine Run.block ?_
    refine Run.loop (S := Nat × List (InR Int) × Option Addr × Nat) (fun s => match s with | (k, rs, A2, c2) => k ≤ 601 ∧ rs.length ≤ k ∧ rs.map InR.l = strTo (openD ns day) k) (fun s => match s with | (k, rs, A2, c2) => [(0, .slice A ns.length c), (1, .int .i64 day), (6, .slice A2 rs.length c2), (7, .int .i64 (k : Int))]) (fun s => match s with | (k, rs, A2, c2) => (.row A2 c2 36 1 rs.length (rs.flatMap InR.enc) :: rs.map (InR.row 3 1 intC))) (fun s => match s with | (k, rs, A2, c2) => 601 - k) (0, [], some ⟨b1, 0, none⟩, 0) ?_ (SubE.cons rfl (SubE.cons rfl (SubE.cons rfl (SubE.cons rfl (SubE.nil _))))) (List.Sublist.refl _) ?_
    · exact ⟨by omega, by simp, rfl⟩
    · rintro ⟨k, rs, A2, c2⟩ ⟨hk, hrl, hrs⟩
      show Run _ _ _ _ _ [(0, .slice A ns.length c), (1, .int .i64 day), (6, .slice A2 rs.length c2), (7, .int .i64 (k : Int))] (.row A2 c2 36 1 rs.length (rs.flatMap InR.enc) :: rs.map (InR.row 3 1 intC)) _
      have h2 := rs_two hrs strTo_two
      refine Run.seq ?_
      refine Run.seq ?_
      refine Run.quiet (by intro h; cases h) ?_
      refine QOps.st rfl rfl (Yv.move rfl).yl ?_
      refine QOps.st rfl rfl (Yl.call callable64 (.cons rfl (.nil)) (fun w' hw' => isKilometer_spec)) ?_
      refine QOps.nil ?_
      refine Run.cond rfl (fun hc2 => ?_) (fun hc2 => ?_)
      · try replace hc2 := of_decide_eq_true hc2
        refine Run.skip ?_
        refine Run.seq ?_
        refine Run.block ?_
        refine Run.seq ?_
        refine Run.seq ?_
        refine Run.quiet (by intro h; cases h) ?_
        refine QOps.st rfl rfl (Yv.move rfl).yl ?_
        refine QOps.st rfl rfl (Yv.move rfl).yl ?_
        refine QOps.st rfl rfl (Yv.move rfl).yl ?_
        refine QOps.st rfl rfl (Yv.move rfl).yl ?_
        refine QOps.st rfl rfl (Yl.call callable57 (.cons rfl (.cons rfl (.cons rfl (.cons rfl (.nil))))) (fun w' hw' => isOpen_spec ((Rd.arg hs) w' hw') (by assumption))) ?_
        refine QOps.st rfl rfl (Yv.not rfl).yl ?_
        refine QOps.nil ?_
        refine Run.cond rfl (fun hc3 => ?_) (fun hc3 => ?_)
        · try replace hc3 := of_decide_eq_true hc3
          have hop : openD ns day k = false := by simpa [openD] using hc3
          refine Run.exit ?_
          refine Run.quiet (by intro h; cases h) ?_
          refine QOps.st rfl rfl (Yv.move rfl).yl ?_
          refine QOps.st rfl rfl (Yv.succN rfl rfl (by omega)).yl ?_
          refine QOps.st rfl rfl (Yv.assign rfl).yl ?_
          refine QOps.nil ?_
          refine ⟨(k + 1, rs, A2, c2), ?_, ?_, (SubE.cons rfl (SubE.cons rfl (SubE.cons rfl (SubE.cons rfl (SubE.nil _))))), (List.Sublist.refl _)⟩
          · exact ⟨by omega, by omega, by rw [strTo_no hop, hrs]⟩
          · first | omega | (dsimp only; omega)
        · try replace hc3 := of_decide_eq_false hc3
          have hop : openD ns day k = true := by simpa [openD] using hc3
          refine Run.skip ?_
          refine Run.seq ?_
          refine Run.quiet (by intro h; cases h) ?_
          refine QOps.st rfl rfl (Yv.move rfl).yl ?_
          refine QOps.st rfl rfl (Yv.lenS el45s rfl).yl ?_
          refine QOps.st rfl rfl (Yv.sub rfl rfl (by omega)).yl ?_
          refine QOps.st rfl rfl (Yv.assign rfl).yl ?_
          refine QOps.nil ?_
          refine Run.seq ?_
          refine Run.quiet (by intro h; cases h) ?_
          refine QOps.st rfl rfl (Yv.move rfl).yl ?_
          refine QOps.st rfl rfl (Yv.geq rfl rfl).yl ?_
          refine QOps.st rfl rfl (Yv.move rfl).yl ?_
          refine' QOps.and [_, _, _, _, _, _, _, _, _] _ (.tmp 38) rfl rfl rfl rfl rfl rfl (fun hg1 => ?_) ?_
          rotate_left
          · try replace hg1 := of_decide_eq_true hg1
            have hq2 := h2 _ (nthMem (show rs.length - 1 < rs.length by omega))
            refine QOps.st rfl rfl (Yv.move rfl).yl ?_
            refine QOps.st rfl rfl (Yv.move rfl).yl ?_
            refine QOps.st rfl rfl (Yv.indexAddr (rs.length - 1) el45 rfl rfl (by omega) (Rd.row (i := 0) rfl) (by omega)).yl ?_
            refine QOps.st rfl rfl (Yv.loadE (k := (rs.length - 1)) lay36 rfl InR.len (Rd.row (i := 0) rfl) (by first | omega | (simp; omega)) rfl).yl ?_
            refine QOps.st rfl rfl (Yv.indexAddr 1 el36 rfl rfl rfl (Rd.innerOf (H1 := [_]) (rs := rs) (k := (rs.length - 1)) (by omega) (fun x hx => hx)) (by omega)).yl ?_
            refine QOps.st rfl rfl (Yv.loadE lay3 rfl intC_len (Rd.innerOf (H1 := [_]) (rs := rs) (k := (rs.length - 1)) (by omega) (fun x hx => hx)) (by first | omega | (simp; omega)) rfl).yl ?_
            refine QOps.st rfl rfl (Yv.move rfl).yl ?_
            refine QOps.st rfl rfl (Yv.sub rfl rfl (by omega)).yl ?_
            refine QOps.st rfl rfl (Yv.eqI rfl rfl).yl ?_
            exact QOps.nil rfl
          refine QOps.nil ?_
          refine Run.cond rfl (fun hc4 => ?_) (fun hc4 => ?_)
          · try replace hc4 := of_decide_eq_true hc4
            have hr0 : 0 < rs.length := by simp at hc4; omega
            have hlg : longer (strTo (openD ns day) k) k = true := by
                  rw [long_rs hrs]; simp at hc4 ⊢; omega
            have hq2 := h2 _ (nthMem (show rs.length - 1 < rs.length by omega))
            refine Run.ops ?_
            refine SOps.st rfl rfl (Yv.move rfl).yl ?_
            refine SOps.st rfl rfl (Yv.move rfl).yl ?_
            refine SOps.st rfl rfl (Yv.indexAddr (rs.length - 1) el45 rfl rfl (by omega) (Rd.row (i := 0) rfl) (by omega)).yl ?_
            refine SOps.st rfl rfl (Yv.loadE (k := (rs.length - 1)) lay36 rfl InR.len (Rd.row (i := 0) rfl) (by first | omega | (simp; omega)) rfl).yl ?_
            refine SOps.st rfl rfl (Yv.move rfl).yl ?_
            refine SOps.st rfl rfl (Yv.indexAddr 1 el36 rfl rfl rfl (Rd.innerOf (H1 := [_]) (rs := rs) (k := (rs.length - 1)) (by omega) (fun x hx => hx)) (by omega)).yl ?_
            refine SOps.one rfl (One.storeIn (H1 := [_]) (rs := rs) (k := (rs.length - 1)) (j := 1) (f := 0) (e := ((k : Nat) : Int)) lay3 rfl rfl rfl intC_len rfl (by decide) rfl rfl (by omega) (by omega) ?_)
            refine SOps.nil ?_
            refine Run.reRow (i := 0) (m' := (rs.set (rs.length - 1) ⟨(nth rs (rs.length - 1)).A, (nth rs (rs.length - 1)).c, (nth rs (rs.length - 1)).l.set 1 (k : Int)⟩).length) (xs' := (rs.set (rs.length - 1) ⟨(nth rs (rs.length - 1)).A, (nth rs (rs.length - 1)).c, (nth rs (rs.length - 1)).l.set 1 (k : Int)⟩).flatMap InR.enc) (H' := (_ :: _)) rfl (by simp) (flat_same (by omega) (by simp)) rfl ?_
            refine Run.quiet (by intro h; cases h) ?_
            refine QOps.st rfl rfl (Yv.move rfl).yl ?_
            refine QOps.st rfl rfl (Yv.succN rfl rfl (by omega)).yl ?_
            refine QOps.st rfl rfl (Yv.assign rfl).yl ?_
            refine QOps.nil ?_
            refine ⟨(k + 1, (rs.set (rs.length - 1) ⟨(nth rs (rs.length - 1)).A, (nth rs (rs.length - 1)).c, (nth rs (rs.length - 1)).l.set 1 (k : Int)⟩), A2, c2), ?_, ?_, (SubE.cons rfl (SubE.cons rfl (SubE.cons (congrArg some (by simp)) (SubE.cons rfl (SubE.nil _))))), (List.Sublist.refl _)⟩
            · exact ⟨by omega, by simp; omega, more_rs hrs hr0 hop hlg (two_set hq2)⟩
            · first | omega | (dsimp only; omega)
          · try replace hc4 := of_decide_eq_false hc4
            have hlg : longer (strTo (openD ns day) k) k = false := by
                  rw [long_rs hrs]; simp at hc4 ⊢; omega
            refine Run.ops ?_
            refine SOps.st rfl rfl (Yv.move rfl).yl ?_
            refine SOps.st rfl rfl (Yv.move rfl).yl ?_
            refine SOps.st rfl rfl (Yv.move rfl).yl ?_
            refine SOps.one rfl (One.buildSliceG (pv := [(0, _), (1, _)]) (cs := [_, _]) (fun l => match l with | [a0_0, a1_0] => [a0_0, a1_0] | _ => []) rfl el36 (.cons rfl (.cons rfl (.nil))) rfl rfl (by kernel_rfl) rfl rfl (fun b2 => ?_))
            refine SOps.one rfl (One.buildSliceG (pv := [(0, _)]) (cs := [_]) (fun l => match l with | [a0_0] => [a0_0] | _ => []) rfl el45 (.cons rfl (.nil)) rfl rfl (by kernel_rfl) rfl rfl (fun b3 => ?_))
            refine SOps.one rfl (One.append (enc := InR.enc) (l := rs) (l2 := [(⟨(some ⟨b2, 0, none⟩), 2, [(k : Int), (k : Int)]⟩ : InR Int)]) (m' := (rs ++ [(⟨(some ⟨b2, 0, none⟩), 2, [(k : Int), (k : Int)]⟩ : InR Int)]).length) (i := 2) (H' := fun A c => (_ :: _ :: _ :: _)) rfl el45 zero36 rfl (by decide) rfl rfl rfl (Rd.row (i := 0) rfl) (fun _ => rfl) (by simp) (by simp; omega) (by simp; omega) (fun _ _ => rfl) (fun A1 c1 => ?_))
            refine SOps.st rfl rfl (Yv.assign rfl).yl ?_
            refine SOps.nil ?_
            refine Run.weak (List.Sublist.cons _ (List.Sublist.refl _)) ?_
            refine Run.innerTo (T := 3) (sz := 1) (enc := intC) (H1 := [_]) (A := (some ⟨b2, 0, none⟩)) (l := [(k : Int), (k : Int)]) (rs' := (rs ++ [⟨(some ⟨b2, 0, none⟩), 2, [(k : Int), (k : Int)]⟩])) (r := []) rfl perm_snoc ?_
            refine Run.quiet (by intro h; cases h) ?_
            refine QOps.st rfl rfl (Yv.move rfl).yl ?_
            refine QOps.st rfl rfl (Yv.succN rfl rfl (by omega)).yl ?_
            refine QOps.st rfl rfl (Yv.assign rfl).yl ?_
            refine QOps.nil ?_
            refine ⟨(k + 1, rs ++ [_], _, _), ?_, ?_, (SubE.cons rfl (SubE.cons rfl (SubE.cons rfl (SubE.cons rfl (SubE.nil _))))), (List.Sublist.refl _)⟩
            · exact ⟨by omega, by simp; omega, by rw [strTo_new hop hlg, ← hrs]; simp⟩
            · first | omega | (dsimp only; omega)
      · try replace hc2 := of_decide_eq_false hc2
        obtain rfl : k = 601 := by omega
        refine Run.exit ?_
        refine Run.seq ?_
        refine Run.quiet (by intro h; cases h) ?_
        refine QOps.st rfl rfl (Yv.move rfl).yl ?_
        refine QOps.st rfl rfl (Yv.assign rfl).yl ?_
        refine QOps.st rfl rfl (Yv.assign rfl).yl ?_
        refine QOps.nil ?_
        refine Run.ret ?_
        refine retQ.of (.inr rfl) rfl (.tmp rfl (.tmp rfl .nil)) (fun w' hw' => ?_)
        unfold strL; rw [if_pos hy, hy]
        exact retTab_own2 rfl hw' hrs rfl (List.Sublist.refl _)
theorem sOpenStretches_spec {w : World} {A : Option Addr} {c : Nat} {ns : List Notice} {day : Int} (hs : Sl w 7 A ns.length c (ns.flatMap Notice.enc)) :
    Calls Try.prog 34 #[.slice A ns.length c, .int .i64 day] w (RetTab w 36 3 1 intC (strL ns day) (fun x => .tuple #[x, .bool (endOk ns day)])) := by
  have hmx := Sl.lenle hs
  refine calls_of_run (vs := [_, _]) (L := [(0, _), (1, _)]) (n := 65) (F := []) (H := []) Try.func34 rfl rfl rfl rfl (HOk.start _) ?_
  refine Run.seq ?_
  refine Run.quiet (by intro h; cases h) ?_
  refine QOps.st rfl rfl (Yv.assign rfl).yl ?_
  refine QOps.st rfl rfl (Yv.assign rfl).yl ?_
  refine QOps.nil ?_
  refine Run.seq ?_
  refine Run.ops ?_
  refine SOps.one rfl (One.buildSliceG (pv := []) (cs := []) (fun _ => []) rfl el45 .nil rfl rfl (by kernel_rfl) rfl rfl (fun b1 => ?_))
  refine SOps.st rfl rfl (Yv.assign rfl).yl ?_
  refine SOps.nil ?_
  refine Run.seq ?_
  refine Run.seq ?_
  refine Run.quiet (by intro h; cases h) ?_
  refine QOps.st rfl rfl (Yv.move rfl).yl ?_
  refine QOps.st rfl rfl (Yl.call callable45 (.cons rfl (.nil)) (fun w' hw' => l22Good_spec ((Rd.arg hs) w' hw'))) ?_
  refine QOps.st rfl rfl (Yv.not rfl).yl ?_
  refine QOps.st rfl rfl (Yv.move rfl).yl ?_
  refine' QOps.or [_, _, _] _ (.tmp 16) rfl rfl rfl rfl rfl rfl (fun hg1 => ?_) ?_
  rotate_left
  · try replace hg1 := of_decide_eq_false hg1
    refine QOps.st rfl rfl (Yv.move rfl).yl ?_
    refine QOps.st rfl rfl (Yl.call callable61 (.cons rfl (.nil)) (fun w' hw' => l22Day_spec)) ?_
    refine QOps.st rfl rfl (Yv.not rfl).yl ?_
    exact QOps.nil rfl
  refine QOps.nil ?_
  refine Run.cond rfl (fun hc1 => ?_) (fun hc1 => ?_)
  · try replace hc1 := of_decide_eq_true hc1
    have hn : endOk ns day = false := by unfold endOk; revert hc1; cases areNotices ns <;> cases inB day 0 365 <;> simp
    refine Run.seq ?_
    refine Run.quiet (by intro h; cases h) ?_
    refine QOps.st rfl rfl (Yv.move rfl).yl ?_
    refine QOps.st rfl rfl (Yv.assign rfl).yl ?_
    refine QOps.st rfl rfl (Yv.assign rfl).yl ?_
    refine QOps.nil ?_
    refine Run.ret ?_
    refine retQ.of (.inr rfl) rfl (.tmp rfl (.tmp rfl .nil)) (fun w' hw' => ?_)
    unfold strL; rw [if_neg (by rw [hn]; simp), hn]
    exact retTab_own2 (rs := []) rfl hw' rfl rfl (List.Sublist.refl _)
  · try replace hc1 := of_decide_eq_false hc1
    have hy : endOk ns day = true := by unfold endOk; revert hc1; cases areNotices ns <;> cases inB day 0 365 <;> simp
    have hak : asked ns 0 0 day = true := by unfold asked; revert hc1; cases areNotices ns <;> cases inB day 0 365 <;> simp [inB]
    have hway := asked_way hak
    have hzero := asked_zero hak
    refine Run.skip ?_
    refine Run.seq ?_
    refine Run.seq ?_
    refine Run.quiet (by intro h; cases h) ?_
    refine QOps.st rfl rfl (Yv.assign rfl).yl ?_
    refine QOps.nil ?_
    refine Run.block ?_
    refine Run.loop (S := Nat × List (InR Int) × Option Addr × Nat) (fun s => match s with | (k, rs, A2, c2) => k ≤ 601 ∧ rs.length ≤ k ∧ rs.map InR.l = strTo (openD ns day) k) (fun s => match s with | (k, rs, A2, c2) => [(0, .slice A ns.length c), (1, .int .i64 day), (6, .slice A2 rs.length c2), (7, .int .i64 (k : Int))]) (fun s => match s with | (k, rs, A2, c2) => (.row A2 c2 36 1 rs.length (rs.flatMap InR.enc) :: rs.map (InR.row 3 1 intC))) (fun s => match s with | (k, rs, A2, c2) => 601 - k) (0, [], some ⟨b1, 0, none⟩, 0) ?_ (SubE.cons rfl (SubE.cons rfl (SubE.cons rfl (SubE.cons rfl (SubE.nil _))))) (List.Sublist.refl _) ?_
    · exact ⟨by omega, by simp, rfl⟩
    · rintro ⟨k, rs, A2, c2⟩ ⟨hk, hrl, hrs⟩
      show Run _ _ _ _ _ [(0, .slice A ns.length c), (1, .int .i64 day), (6, .slice A2 rs.length c2), (7, .int .i64 (k : Int))] (.row A2 c2 36 1 rs.length (rs.flatMap InR.enc) :: rs.map (InR.row 3 1 intC)) _
      have h2 := rs_two hrs strTo_two
      refine Run.seq ?_
      refine Run.seq ?_
      refine Run.quiet (by intro h; cases h) ?_
      refine QOps.st rfl rfl (Yv.move rfl).yl ?_
      refine QOps.st rfl rfl (Yv.leq rfl rfl).yl ?_
      refine QOps.nil ?_
      refine Run.cond rfl (fun hc2 => ?_) (fun hc2 => ?_)
      · try replace hc2 := of_decide_eq_true hc2
        refine Run.skip ?_
        refine Run.seq ?_
        refine Run.block ?_
        refine Run.seq ?_
        refine Run.seq ?_
        refine Run.quiet (by intro h; cases h) ?_
        refine QOps.st rfl rfl (Yv.move rfl).yl ?_
        refine QOps.st rfl rfl (Yv.move rfl).yl ?_
        refine QOps.st rfl rfl (Yv.move rfl).yl ?_
        refine QOps.st rfl rfl (Yv.move rfl).yl ?_
        refine QOps.st rfl rfl (Yl.call callable56 (.cons rfl (.cons rfl (.cons rfl (.cons rfl (.nil))))) (fun w' hw' => l22Open_spec ((Rd.arg hs) w' hw') (by assumption) (by assumption))) ?_
        refine QOps.st rfl rfl (Yv.not rfl).yl ?_
        refine QOps.nil ?_
        refine Run.cond rfl (fun hc3 => ?_) (fun hc3 => ?_)
        · try replace hc3 := of_decide_eq_true hc3
          have hop : openD ns day k = false := by simpa [openD] using hc3
          refine Run.exit ?_
          refine Run.quiet (by intro h; cases h) ?_
          refine QOps.st rfl rfl (Yv.move rfl).yl ?_
          refine QOps.st rfl rfl (Yv.succN rfl rfl (by omega)).yl ?_
          refine QOps.st rfl rfl (Yv.assign rfl).yl ?_
          refine QOps.nil ?_
          refine ⟨(k + 1, rs, A2, c2), ?_, ?_, (SubE.cons rfl (SubE.cons rfl (SubE.cons rfl (SubE.cons rfl (SubE.nil _))))), (List.Sublist.refl _)⟩
          · exact ⟨by omega, by omega, by rw [strTo_no hop, hrs]⟩
          · first | omega | (dsimp only; omega)
        · try replace hc3 := of_decide_eq_false hc3
          have hop : openD ns day k = true := by simpa [openD] using hc3
          refine Run.skip ?_
          refine Run.seq ?_
          refine Run.quiet (by intro h; cases h) ?_
          refine QOps.st rfl rfl (Yv.move rfl).yl ?_
          refine QOps.st rfl rfl (Yv.lenS el45s rfl).yl ?_
          refine QOps.st rfl rfl (Yv.assign rfl).yl ?_
          refine QOps.nil ?_
          refine Run.seq ?_
          refine Run.quiet (by intro h; cases h) ?_
          refine QOps.st rfl rfl (Yv.move rfl).yl ?_
          refine QOps.st rfl rfl (Yv.gtr rfl rfl).yl ?_
          refine QOps.st rfl rfl (Yv.move rfl).yl ?_
          refine' QOps.and [_, _, _, _, _, _, _, _, _, _] _ (.tmp 43) rfl rfl rfl rfl rfl rfl (fun hg2 => ?_) ?_
          rotate_left
          · try replace hg2 := of_decide_eq_true hg2
            have hq2 := h2 _ (nthMem (show rs.length - 1 < rs.length by omega))
            refine QOps.st rfl rfl (Yv.move rfl).yl ?_
            refine QOps.st rfl rfl (Yv.move rfl).yl ?_
            refine QOps.st rfl rfl (Yv.sub rfl rfl (by omega)).yl ?_
            refine QOps.st rfl rfl (Yv.indexAddr (rs.length - 1) el45 rfl rfl (by omega) (Rd.row (i := 0) rfl) (by omega)).yl ?_
            refine QOps.st rfl rfl (Yv.loadE (k := (rs.length - 1)) lay36 rfl InR.len (Rd.row (i := 0) rfl) (by first | omega | (simp; omega)) rfl).yl ?_
            refine QOps.st rfl rfl (Yv.indexAddr 1 el36 rfl rfl rfl (Rd.innerOf (H1 := [_]) (rs := rs) (k := (rs.length - 1)) (by omega) (fun x hx => hx)) (by omega)).yl ?_
            refine QOps.st rfl rfl (Yv.loadE lay3 rfl intC_len (Rd.innerOf (H1 := [_]) (rs := rs) (k := (rs.length - 1)) (by omega) (fun x hx => hx)) (by first | omega | (simp; omega)) rfl).yl ?_
            refine QOps.st rfl rfl (Yv.move rfl).yl ?_
            refine QOps.st rfl rfl (Yv.sub rfl rfl (by omega)).yl ?_
            refine QOps.st rfl rfl (Yv.eqI rfl rfl).yl ?_
            exact QOps.nil rfl
          refine QOps.nil ?_
          refine Run.cond rfl (fun hc4 => ?_) (fun hc4 => ?_)
          · try replace hc4 := of_decide_eq_true hc4
            have hr0 : 0 < rs.length := by simp at hc4; omega
            have hlg : longer (strTo (openD ns day) k) k = true := by
                  rw [long_rs hrs]; simp at hc4 ⊢; omega
            have hq2 := h2 _ (nthMem (show rs.length - 1 < rs.length by omega))
            refine Run.ops ?_
            refine SOps.st rfl rfl (Yv.move rfl).yl ?_
            refine SOps.st rfl rfl (Yv.move rfl).yl ?_
            refine SOps.st rfl rfl (Yv.sub rfl rfl (by omega)).yl ?_
            refine SOps.st rfl rfl (Yv.move rfl).yl ?_
            refine SOps.st rfl rfl (Yv.move rfl).yl ?_
            refine SOps.st rfl rfl (Yv.sub rfl rfl (by omega)).yl ?_
            refine SOps.st rfl rfl (Yv.indexAddr (rs.length - 1) el45 rfl rfl (by omega) (Rd.row (i := 0) rfl) (by omega)).yl ?_
            refine SOps.st rfl rfl (Yv.loadE (k := (rs.length - 1)) lay36 rfl InR.len (Rd.row (i := 0) rfl) (by first | omega | (simp; omega)) rfl).yl ?_
            refine SOps.st rfl rfl (Yv.indexAddr 0 el36 rfl rfl rfl (Rd.innerOf (H1 := [_]) (rs := rs) (k := (rs.length - 1)) (by omega) (fun x hx => hx)) (by omega)).yl ?_
            refine SOps.st rfl rfl (Yv.loadE lay3 rfl intC_len (Rd.innerOf (H1 := [_]) (rs := rs) (k := (rs.length - 1)) (by omega) (fun x hx => hx)) (by first | omega | (simp; omega)) rfl).yl ?_
            refine SOps.st rfl rfl (Yv.move rfl).yl ?_
            refine SOps.one rfl (One.buildSliceG (pv := [(0, _), (1, _)]) (cs := [_, _]) (fun l => match l with | [a0_0, a1_0] => [a0_0, a1_0] | _ => []) rfl el36 (.cons rfl (.cons rfl (.nil))) rfl rfl (by kernel_rfl) rfl rfl (fun b2 => ?_))
            refine SOps.st rfl rfl (Yv.indexAddr (rs.length - 1) el45 rfl rfl (by omega) (Rd.row (i := 1) rfl) (by omega)).yl ?_
            refine SOps.one rfl (One.storeE (i := 1) (k := (rs.length - 1)) (f := 0) (H' := (_ :: _ :: _)) (e := ⟨(some ⟨b2, 0, none⟩), 2, [(nth (nth rs (rs.length - 1)).l (0)), (k : Int)]⟩) lay36 rfl rfl rfl InR.len rfl (by decide) rfl rfl rfl rfl (by omega) rfl ?_)
            refine SOps.nil ?_
            refine Run.weak (List.Sublist.refl _) ?_
            refine Run.innerTo (T := 3) (sz := 1) (enc := intC) (H1 := [_]) (A := (some ⟨b2, 0, none⟩)) (l := [(nth (nth rs (rs.length - 1)).l (0)), (k : Int)]) (rs' := (rs.set (rs.length - 1) ⟨(some ⟨b2, 0, none⟩), 2, [(nth (nth rs (rs.length - 1)).l (0)), (k : Int)]⟩)) (r := [nth rs (rs.length - 1)]) rfl (perm_set (by omega)) ?_
            refine Run.reRow (i := 0) (m' := (rs.set (rs.length - 1) ⟨(some ⟨b2, 0, none⟩), 2, [(nth (nth rs (rs.length - 1)).l (0)), (k : Int)]⟩).length) (H' := (_ :: _)) rfl (by simp) rfl rfl ?_
            refine Run.quiet (by intro h; cases h) ?_
            refine QOps.st rfl rfl (Yv.move rfl).yl ?_
            refine QOps.st rfl rfl (Yv.succN rfl rfl (by omega)).yl ?_
            refine QOps.st rfl rfl (Yv.assign rfl).yl ?_
            refine QOps.nil ?_
            refine ⟨(k + 1, rs.set (rs.length - 1) _, A2, c2), ?_, ?_, (SubE.cons rfl (SubE.cons rfl (SubE.cons (congrArg some (by simp)) (SubE.cons rfl (SubE.nil _))))), (List.Sublist.refl _)⟩
            · exact ⟨by omega, by simp; omega, more_rs hrs hr0 hop hlg rfl⟩
            · first | omega | (dsimp only; omega)
          · try replace hc4 := of_decide_eq_false hc4
            have hlg : longer (strTo (openD ns day) k) k = false := by
                  rw [long_rs hrs]; simp at hc4 ⊢; omega
            refine Run.ops ?_
            refine SOps.st rfl rfl (Yv.move rfl).yl ?_
            refine SOps.st rfl rfl (Yv.move rfl).yl ?_
            refine SOps.st rfl rfl (Yv.move rfl).yl ?_
            refine SOps.one rfl (One.buildSliceG (pv := [(0, _), (1, _)]) (cs := [_, _]) (fun l => match l with | [a0_0, a1_0] => [a0_0, a1_0] | _ => []) rfl el36 (.cons rfl (.cons rfl (.nil))) rfl rfl (by kernel_rfl) rfl rfl (fun b3 => ?_))
            refine SOps.one rfl (One.buildSliceG (pv := [(0, _)]) (cs := [_]) (fun l => match l with | [a0_0] => [a0_0] | _ => []) rfl el45 (.cons rfl (.nil)) rfl rfl (by kernel_rfl) rfl rfl (fun b4 => ?_))
            refine SOps.one rfl (One.append (enc := InR.enc) (l := rs) (l2 := [(⟨(some ⟨b3, 0, none⟩), 2, [(k : Int), (k : Int)]⟩ : InR Int)]) (m' := (rs ++ [(⟨(some ⟨b3, 0, none⟩), 2, [(k : Int), (k : Int)]⟩ : InR Int)]).length) (i := 2) (H' := fun A c => (_ :: _ :: _ :: _)) rfl el45 zero36 rfl (by decide) rfl rfl rfl (Rd.row (i := 0) rfl) (fun _ => rfl) (by simp) (by simp; omega) (by simp; omega) (fun _ _ => rfl) (fun A1 c1 => ?_))
            refine SOps.st rfl rfl (Yv.assign rfl).yl ?_
            refine SOps.nil ?_
            refine Run.weak (List.Sublist.cons _ (List.Sublist.refl _)) ?_
            refine Run.innerTo (T := 3) (sz := 1) (enc := intC) (H1 := [_]) (A := (some ⟨b3, 0, none⟩)) (l := [(k : Int), (k : Int)]) (rs' := (rs ++ [⟨(some ⟨b3, 0, none⟩), 2, [(k : Int), (k : Int)]⟩])) (r := []) rfl perm_snoc ?_
            refine Run.quiet (by intro h; cases h) ?_
            refine QOps.st rfl rfl (Yv.move rfl).yl ?_
            refine QOps.st rfl rfl (Yv.succN rfl rfl (by omega)).yl ?_
            refine QOps.st rfl rfl (Yv.assign rfl).yl ?_
            refine QOps.nil ?_
            refine ⟨(k + 1, rs ++ [_], _, _), ?_, ?_, (SubE.cons rfl (SubE.cons rfl (SubE.cons rfl (SubE.cons rfl (SubE.nil _))))), (List.Sublist.refl _)⟩
            · exact ⟨by omega, by simp; omega, by rw [strTo_new hop hlg, ← hrs]; simp⟩
            · first | omega | (dsimp only; omega)
      · try replace hc2 := of_decide_eq_false hc2
        obtain rfl : k = 601 := by omega
        refine Run.exit ?_
        refine Run.seq ?_
        refine Run.quiet (by intro h; cases h) ?_
        refine QOps.st rfl rfl (Yv.move rfl).yl ?_
        refine QOps.st rfl rfl (Yv.assign rfl).yl ?_
        refine QOps.st rfl rfl (Yv.assign rfl).yl ?_
        refine QOps.nil ?_
        refine Run.ret ?_
        refine retQ.of (.inr rfl) rfl (.tmp rfl (.tmp rfl .nil)) (fun w' hw' => ?_)
        unfold strL; rw [if_pos hy, hy]
        exact retTab_own2 rfl hw' hrs rfl (List.Sublist.refl _)
theorem FnExactOpenStretches_spec {w : World} {A : Option Addr} {c : Nat} {ns : List Notice} {day : Int} (hs : Sl w 7 A ns.length c (ns.flatMap Notice.enc)) (hb : 56 * ns.length ≤ 281474976710656) :
    Calls Try.prog 10 #[.slice A ns.length c, .int .i64 day] w (RetB w (.bool true)) := by
  have hvl := strL_len (ns := ns) (day := day)
  refine calls_of_run (vs := [_, _]) (L := [(0, _), (1, _)]) (n := 101) (F := []) (H := []) Try.func10 rfl rfl rfl rfl (HOk.start _) ?_
  refine Run.seq ?_
  refine Run.quiet (by intro h; cases h) ?_
  refine QOps.st rfl rfl (Yv.assign rfl).yl ?_
  refine QOps.nil ?_
  refine Run.seq ?_
  refine Run.quiet (by intro h; cases h) ?_
  refine QOps.st rfl rfl (Yv.assign rfl).yl ?_
  refine QOps.nil ?_
  refine Run.seq ?_
  refine Run.quiet (by intro h; cases h) ?_
  refine QOps.st rfl rfl (Yv.move rfl).yl ?_
  refine QOps.st rfl rfl (Yv.move rfl).yl ?_
  refine QOps.st rfl rfl (Yl.call callable12 (.cons rfl (.cons rfl (.nil))) (fun w' hw' => szNoticeS_spec (by omega) (by omega) (by omega))) ?_
  refine QOps.st rfl rfl (Yv.assign rfl).yl ?_
  refine QOps.nil ?_
  refine Run.seq ?_
  refine Run.seq ?_
  refine Run.quiet (by intro h; cases h) ?_
  refine QOps.st rfl rfl (Yv.move rfl).yl ?_
  refine QOps.st rfl rfl (Yv.lss rfl rfl).yl ?_
  refine QOps.nil ?_
  refine Run.cond rfl (fun hc1 => ?_) (fun hc1 => ?_)
  · try replace hc1 := of_decide_eq_true hc1
    refine Run.seq ?_
    refine Run.quiet (by intro h; cases h) ?_
    refine QOps.st rfl rfl (Yv.assign rfl).yl ?_
    refine QOps.nil ?_
    refine Run.ret ?_
    refine retQ.of (.inr rfl) rfl (.tmp rfl .nil) (fun w' hw' => ?_)
    refine ⟨?_, hw'.bel.below⟩
    exact rfl
  · try replace hc1 := of_decide_eq_false hc1
    have hn1 : ns.length ≤ 1048576 := by split at hc1 <;> omega
    refine Run.skip ?_
    refine Run.seq ?_
    refine Run.ops ?_
    refine SOps.st rfl rfl (Yv.move rfl).yl ?_
    refine SOps.one rfl (One.callRow rfl callable14 (.cons rfl (.nil)) (fun w' hw' => toNoticeS_spec ((Rd.arg hs) w' hw') (by omega)) (fun A1 c1 => ?_))
    refine SOps.st rfl rfl (Yv.move rfl).yl ?_
    refine SOps.one rfl (One.callTabT (H1 := [_]) (rs0 := ([] : List (InR Int))) rfl callable34 (.cons rfl (.cons rfl (.nil))) (fun w' hw' => sOpenStretches_spec ((Rd.row (i := 0) rfl) w' hw')) ?_)
    rintro At1 ct1 rs1 hrs1
    have hrl1 : rs1.length = (strL ns day).length := by rw [← hrs1]; simp
    have htot1 := tot_two (rs_two hrs1 strL_two) (Nat.le_refl rs1.length)
    refine SOps.st rfl rfl (Yv.move rfl).yl ?_
    refine SOps.st rfl rfl (Yv.extract rfl rfl).yl ?_
    refine SOps.st rfl rfl (Yv.extract rfl rfl).yl ?_
    refine SOps.st rfl rfl (Yv.assign rfl).yl ?_
    refine SOps.st rfl rfl (Yv.assign rfl).yl ?_
    refine SOps.nil ?_
    refine Run.seq ?_
    refine Run.ops ?_
    refine SOps.st rfl rfl (Yv.move rfl).yl ?_
    refine SOps.one rfl (One.callRow rfl callable14 (.cons rfl (.nil)) (fun w' hw' => toNoticeS_spec ((Rd.arg hs) w' hw') (by omega)) (fun A2 c2 => ?_))
    refine SOps.st rfl rfl (Yv.assign rfl).yl ?_
    refine SOps.nil ?_
    refine Run.seq ?_
    refine Run.ops ?_
    refine SOps.st rfl rfl (Yv.move rfl).yl ?_
    refine SOps.st rfl rfl (Yv.move rfl).yl ?_
    refine SOps.one rfl (One.callTabT (H1 := [_, _, _]) (rs0 := (([] : List (InR Int)) ++ rs1)) rfl callable35 (.cons rfl (.cons rfl (.nil))) (fun w' hw' => OpenStretches_spec ((Rd.row (i := 0) rfl) w' hw')) ?_)
    rintro At2 ct2 rs2 hrs2
    have hrl2 : rs2.length = (strL ns day).length := by rw [← hrs2]; simp
    have htot2 := tot_two (rs_two hrs2 strL_two) (Nat.le_refl rs2.length)
    refine SOps.st rfl rfl (Yv.move rfl).yl ?_
    refine SOps.st rfl rfl (Yv.extract rfl rfl).yl ?_
    refine SOps.st rfl rfl (Yv.extract rfl rfl).yl ?_
    refine SOps.st rfl rfl (Yv.assign rfl).yl ?_
    refine SOps.st rfl rfl (Yv.assign rfl).yl ?_
    refine SOps.nil ?_
    refine Run.seq ?_
    refine Run.seq ?_
    refine Run.quiet (by intro h; cases h) ?_
    refine QOps.st rfl rfl (Yv.move rfl).yl ?_
    refine QOps.st rfl rfl (Yv.move rfl).yl ?_
    refine QOps.st rfl rfl (Yl.call callable36 (.cons rfl (.cons rfl (.nil))) (fun w' hw' => eqIntSS_spec ((Rd.row (i := 0) rfl) w' hw') ((Rd.row (i := 2) rfl) w' hw') (rdin_tail (H1 := [_, _, _, _]) hw' (fun x hx => by simp [hx])) (rdin_tail (H1 := [_, _, _, _]) hw' (fun x hx => by simp [hx])) (by rw [hrs2, hrs1]))) ?_
    refine QOps.st rfl rfl (Yv.not rfl).yl ?_
    refine QOps.st rfl rfl (Yv.move rfl).yl ?_
    refine' QOps.or [_, _, _] _ (.tmp 43) rfl rfl rfl rfl rfl rfl (fun hg1 => ?_) ?_
    rotate_left
    · try replace hg1 := of_decide_eq_false hg1
      refine QOps.st rfl rfl (Yv.move rfl).yl ?_
      refine QOps.st rfl rfl (Yv.move rfl).yl ?_
      refine QOps.st rfl rfl (Yv.neB bool4 rfl rfl).yl ?_
      exact QOps.nil rfl
    refine QOps.nil ?_
    refine Run.cond rfl (fun hc2 => ?_) (fun hc2 => ?_)
    · exfalso
      first | (simp at hc2; done) | (simp at hc2; omega) | omega
    · try replace hc2 := of_decide_eq_false hc2
      refine Run.skip ?_
      refine Run.seq ?_
      refine Run.seq ?_
      refine Run.ops ?_
      refine SOps.st rfl rfl (Yv.move rfl).yl ?_
      refine SOps.st rfl rfl (Yv.move rfl).yl ?_
      refine SOps.one rfl (One.callRow rfl callable14 (.cons rfl (.nil)) (fun w' hw' => toNoticeS_spec ((Rd.arg hs) w' hw') (by omega)) (fun A3 c3 => ?_))
      refine SOps.st rfl rfl (Yl.call callable16 (.cons rfl (.cons rfl (.nil))) (fun w' hw' => eqNoticeS_spec ((Rd.row (i := 2) rfl) w' hw') ((Rd.row (i := 0) rfl) w' hw'))) ?_
      refine SOps.st rfl rfl (Yv.not rfl).yl ?_
      refine SOps.nil ?_
      refine Run.cond rfl (fun hc3 => ?_) (fun hc3 => ?_)
      · exfalso
        first | (simp at hc3; done) | (simp at hc3; omega) | omega
      · try replace hc3 := of_decide_eq_false hc3
        refine Run.skip ?_
        refine Run.seq ?_
        refine Run.quiet (by intro h; cases h) ?_
        refine QOps.st rfl rfl (Yv.assign rfl).yl ?_
        refine QOps.nil ?_
        refine Run.seq ?_
        refine Run.ops ?_
        refine SOps.st rfl rfl (Yv.move rfl).yl ?_
        refine SOps.st rfl rfl (Yv.move rfl).yl ?_
        refine SOps.one rfl (One.callMut (i := 2) (H' := (_ :: _ :: _ :: _ :: _ :: _)) rfl callable28 (.cons rfl (.cons rfl (.nil))) rfl (fun w' hw' => markNoticeS_spec (hw'.ent _ (List.mem_of_getElem? (i := 2) rfl)) (by omega) (by omega) (by omega)) rfl ?_)
        refine SOps.st rfl rfl (Yv.assign rfl).yl ?_
        refine SOps.nil ?_
        refine Run.seq ?_
        refine Run.seq ?_
        refine Run.quiet (by intro h; cases h) ?_
        refine QOps.st rfl rfl (Yv.move rfl).yl ?_
        refine QOps.st rfl rfl (Yv.lss rfl rfl).yl ?_
        refine QOps.st rfl rfl (Yv.move rfl).yl ?_
        refine' QOps.or [_, _, _, _] _ (.tmp 59) rfl rfl rfl rfl rfl rfl (fun hg2 => ?_) ?_
        rotate_left
        · try replace hg2 := of_decide_eq_false hg2
          refine QOps.st rfl rfl (Yv.move rfl).yl ?_
          refine QOps.st rfl rfl (Yv.move rfl).yl ?_
          refine QOps.st rfl rfl (Yl.call callable36 (.cons rfl (.cons rfl (.nil))) (fun w' hw' => eqIntSS_spec ((Rd.row (i := 1) rfl) w' hw') ((Rd.row (i := 3) rfl) w' hw') (rdin_tail (H1 := [_, _, _, _, _]) hw' (fun x hx => by simp [hx])) (rdin_tail (H1 := [_, _, _, _, _]) hw' (fun x hx => by simp [hx])) (by rw [hrs2, hrs1]))) ?_
          refine QOps.st rfl rfl (Yv.not rfl).yl ?_
          exact QOps.nil rfl
        refine QOps.st rfl rfl (Yv.move rfl).yl ?_
        refine' QOps.or [_, _, _] _ (.tmp 64) rfl rfl rfl rfl rfl rfl (fun hg3 => ?_) ?_
        rotate_left
        · try replace hg3 := of_decide_eq_false hg3
          refine QOps.st rfl rfl (Yv.move rfl).yl ?_
          refine QOps.st rfl rfl (Yv.move rfl).yl ?_
          refine QOps.st rfl rfl (Yv.neB bool4 rfl rfl).yl ?_
          exact QOps.nil rfl
        refine QOps.nil ?_
        refine Run.cond rfl (fun hc4 => ?_) (fun hc4 => ?_)
        · exfalso
          first | (simp at hc4; done) | (simp at hc4; omega) | omega
        · try replace hc4 := of_decide_eq_false hc4
          refine Run.skip ?_
          refine Run.seq ?_
          refine Run.quiet (by intro h; cases h) ?_
          refine QOps.st rfl rfl (Yv.assign rfl).yl ?_
          refine QOps.nil ?_
          refine Run.seq ?_
          refine Run.ops ?_
          refine SOps.st rfl rfl (Yv.move rfl).yl ?_
          refine SOps.st rfl rfl (Yv.move rfl).yl ?_
          refine SOps.one rfl (One.callTabMut (H1 := [_, _, _, _, _]) (ra := (([] : List (InR Int)) ++ rs1)) (rs := rs2) (rs' := markTab rs2 1) rfl callable37 (.cons rfl (.cons rfl (.nil))) (fun w' hw' => markIntSS_spec hw'.lendT ((Rd.row (i := 1) rfl) w' hw') (fun hm => HOk.apartT hw' (i := 1) rfl hm) (by omega) (by omega) (by omega)) ?_)
          refine SOps.st rfl rfl (Yv.assign rfl).yl ?_
          refine SOps.nil ?_
          refine Run.seq ?_
          refine Run.quiet (by intro h; cases h) ?_
          refine QOps.st rfl rfl (Yv.assign rfl).yl ?_
          refine QOps.nil ?_
          refine Run.seq ?_
          refine Run.quiet (by intro h; cases h) ?_
          refine QOps.st rfl rfl (Yv.move rfl).yl ?_
          refine QOps.st rfl rfl (Yv.move rfl).yl ?_
          refine QOps.st rfl rfl (Yl.call callable38 (.cons rfl (.cons rfl (.nil))) (fun w' hw' => heldIntSS_spec ((Rd.row (i := 1) rfl) w' hw') (rdin_tail (H1 := [_, _, _, _, _]) hw' (fun x hx => by simp [hx])) (by omega) (by omega) (by omega))) ?_
          refine QOps.st rfl rfl (Yv.assign rfl).yl ?_
          refine QOps.nil ?_
          refine Run.seq ?_
          refine Run.seq ?_
          refine Run.quiet (by intro h; cases h) ?_
          refine QOps.st rfl rfl (Yv.move rfl).yl ?_
          refine QOps.st rfl rfl (Yv.lss rfl rfl).yl ?_
          refine QOps.nil ?_
          refine Run.cond rfl (fun hc5 => ?_) (fun hc5 => ?_)
          · exfalso
            first | (simp at hc5; done) | (simp at hc5; omega) | omega
          · try replace hc5 := of_decide_eq_false hc5
            refine Run.skip ?_
            refine Run.seq ?_
            refine Run.seq ?_
            refine Run.quiet (by intro h; cases h) ?_
            refine QOps.st rfl rfl (Yv.move rfl).yl ?_
            refine QOps.st rfl rfl (Yv.move rfl).yl ?_
            refine QOps.st rfl rfl (Yv.neI rfl rfl).yl ?_
            refine QOps.nil ?_
            refine Run.cond rfl (fun hc6 => ?_) (fun hc6 => ?_)
            · exfalso
              first | (simp at hc6; done) | (simp at hc6; omega) | omega
            · try replace hc6 := of_decide_eq_false hc6
              refine Run.skip ?_
              refine Run.seq ?_
              refine Run.ops ?_
              refine SOps.st rfl rfl (Yv.move rfl).yl ?_
              refine SOps.one rfl (One.callRow rfl callable14 (.cons rfl (.nil)) (fun w' hw' => toNoticeS_spec ((Rd.arg hs) w' hw') (by omega)) (fun A4 c4 => ?_))
              refine SOps.st rfl rfl (Yv.move rfl).yl ?_
              refine SOps.one rfl (One.callTabT (H1 := [_, _, _, _, _, _]) (rs0 := ((([] : List (InR Int)) ++ rs1) ++ (markTab rs2 1))) rfl callable35 (.cons rfl (.cons rfl (.nil))) (fun w' hw' => OpenStretches_spec ((Rd.row (i := 0) rfl) w' hw')) ?_)
              rintro At3 ct3 rs3 hrs3
              have hrl3 : rs3.length = (strL ns day).length := by rw [← hrs3]; simp
              have htot3 := tot_two (rs_two hrs3 strL_two) (Nat.le_refl rs3.length)
              refine SOps.st rfl rfl (Yv.move rfl).yl ?_
              refine SOps.st rfl rfl (Yv.extract rfl rfl).yl ?_
              refine SOps.st rfl rfl (Yv.extract rfl rfl).yl ?_
              refine SOps.st rfl rfl (Yv.assign rfl).yl ?_
              refine SOps.st rfl rfl (Yv.assign rfl).yl ?_
              refine SOps.nil ?_
              refine Run.seq ?_
              refine Run.seq ?_
              refine Run.quiet (by intro h; cases h) ?_
              refine QOps.st rfl rfl (Yv.move rfl).yl ?_
              refine QOps.st rfl rfl (Yv.move rfl).yl ?_
              refine QOps.st rfl rfl (Yl.call callable36 (.cons rfl (.cons rfl (.nil))) (fun w' hw' => eqIntSS_spec ((Rd.row (i := 0) rfl) w' hw') ((Rd.row (i := 5) rfl) w' hw') (rdin_tail (H1 := [_, _, _, _, _, _, _]) hw' (fun x hx => by simp [hx])) (rdin_tail (H1 := [_, _, _, _, _, _, _]) hw' (fun x hx => by simp [hx])) (by rw [hrs3, hrs1]))) ?_
              refine QOps.st rfl rfl (Yv.not rfl).yl ?_
              refine QOps.st rfl rfl (Yv.move rfl).yl ?_
              refine' QOps.or [_, _, _] _ (.tmp 91) rfl rfl rfl rfl rfl rfl (fun hg4 => ?_) ?_
              rotate_left
              · try replace hg4 := of_decide_eq_false hg4
                refine QOps.st rfl rfl (Yv.move rfl).yl ?_
                refine QOps.st rfl rfl (Yv.move rfl).yl ?_
                refine QOps.st rfl rfl (Yv.neB bool4 rfl rfl).yl ?_
                exact QOps.nil rfl
              refine QOps.nil ?_
              refine Run.cond rfl (fun hc7 => ?_) (fun hc7 => ?_)
              · exfalso
                first | (simp at hc7; done) | (simp at hc7; omega) | omega
              · try replace hc7 := of_decide_eq_false hc7
                refine Run.skip ?_
                refine Run.seq ?_
                refine Run.quiet (by intro h; cases h) ?_
                refine QOps.st rfl rfl (Yv.assign rfl).yl ?_
                refine QOps.nil ?_
                refine Run.seq ?_
                refine Run.quiet (by intro h; cases h) ?_
                refine QOps.st rfl rfl (Yv.move rfl).yl ?_
                refine QOps.st rfl rfl (Yv.move rfl).yl ?_
                refine QOps.st rfl rfl (Yl.call callable38 (.cons rfl (.cons rfl (.nil))) (fun w' hw' => heldIntSS_spec ((Rd.row (i := 3) rfl) w' hw') (rdin_tail (H1 := [_, _, _, _, _, _, _]) hw' (fun x hx => by simp [hx])) (by omega) (by omega) (by omega))) ?_
                refine QOps.st rfl rfl (Yv.assign rfl).yl ?_
                refine QOps.nil ?_
                refine Run.seq ?_
                refine Run.seq ?_
                refine Run.quiet (by intro h; cases h) ?_
                refine QOps.st rfl rfl (Yv.move rfl).yl ?_
                refine QOps.st rfl rfl (Yv.lss rfl rfl).yl ?_
                refine QOps.nil ?_
                refine Run.cond rfl (fun hc8 => ?_) (fun hc8 => ?_)
                · exfalso
                  first | (simp at hc8; done) | (simp at hc8; omega) | omega
                · try replace hc8 := of_decide_eq_false hc8
                  refine Run.skip ?_
                  refine Run.seq ?_
                  refine Run.seq ?_
                  refine Run.quiet (by intro h; cases h) ?_
                  refine QOps.st rfl rfl (Yv.move rfl).yl ?_
                  refine QOps.st rfl rfl (Yv.move rfl).yl ?_
                  refine QOps.st rfl rfl (Yv.neI rfl rfl).yl ?_
                  refine QOps.nil ?_
                  refine Run.cond rfl (fun hc9 => ?_) (fun hc9 => ?_)
                  · exfalso
                    first | (simp at hc9; done) | (simp at hc9; omega) | omega
                  · try replace hc9 := of_decide_eq_false hc9
                    refine Run.skip ?_
                    refine Run.seq ?_
                    refine Run.quiet (by intro h; cases h) ?_
                    refine QOps.st rfl rfl (Yv.assign rfl).yl ?_
                    refine QOps.nil ?_
                    refine Run.ret ?_
                    refine retQ.of (.inr rfl) rfl (.tmp rfl .nil) (fun w' hw' => ?_)
                    refine ⟨?_, hw'.bel.below⟩
                    exact rfl
end Go.Proofs.Ytjabeiolgghfdaa
