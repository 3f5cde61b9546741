/- Convoys: the slacks of a split. Conditions: none. -/
import Derived.Test.YtfpglglolhlegaaCon4
namespace Go.Proofs.Ytfpglglolhlegaa
open Go.RowKit
theorem nth_cut {α : Type} [Inhabited α] {l : List α} {a n m : Nat} (h : m < n) : nth ((l.drop a).take n) m = nth l (a + m) := by
  simp [nth, h, List.getElem?_drop]
theorem sumTo_cut {l : List Int} {a n : Nat} : ∀ {m : Nat}, m ≤ n → sumTo ((l.drop a).take n) m = sumTo l (a + m) - sumTo l a
  | 0, _ => by simp [sumTo]
  | m + 1, h => by
    rw [sumTo, sumTo_cut (by omega), nth_cut (by omega), show a + (m + 1) = (a + m) + 1 from rfl, sumTo]
    omega
theorem sumCut_spec {w : World} {A : Option Addr} {c n e q : Nat} {l : List Int} (hn : n = q) (hs : Sl w 1 A n c (((l.drop e).take n).flatMap intC)) (he : e + q ≤ l.length) (hl : l.length ≤ 1000) (hb : ∀ k, k < l.length → 1 ≤ nth l k ∧ nth l k ≤ 6) :
    Calls Try.prog 59 #[.slice A n c] w (RetB w (.int .i64 (sumTo l (e + q) - sumTo l e))) := by
  subst hn
  have hlen : ((l.drop e).take n).length = n := by simp; omega
  have h := sumInts_spec (l := (l.drop e).take n) (A := A) (c := c) (w := w) (by rw [hlen]; exact hs) (by omega) (fun k hk => by rw [nth_cut (by omega)]; exact hb _ (by omega))
  rw [hlen, sumTo_cut (Nat.le_refl _)] at h
  exact h
def slackOf (p : Int) (l : List Int) (cl : Int) (e q : Nat) : Int := cl - (p + (sumTo l (e + q) - sumTo l e))
/-- The slacks of the first parts, and how many barges they take. -/
def slacksGo (p : Int) (l : List Int) (cl : Int) (ps : List Int) : Nat → Option (List Int × Nat)
  | 0 => some ([], 0)
  | i + 1 => match slacksGo p l cl ps i with
    | none => none
    | some (o, e) => if 1 ≤ nth ps i ∧ nth ps i ≤ (l.length : Int) - (e : Int) then (if slackOf p l cl e (nth ps i).toNat < 0 then none else some (o ++ [slackOf p l cl e (nth ps i).toNat], e + (nth ps i).toNat)) else none
section
variable {p cl : Int} {l ps o : List Int} {i e : Nat}
theorem slacksGo_some (h : slacksGo p l cl ps i = some (o, e)) (h1 : 1 ≤ nth ps i ∧ nth ps i ≤ (l.length : Int) - (e : Int)) (h2 : ¬ slackOf p l cl e (nth ps i).toNat < 0) :
    slacksGo p l cl ps (i + 1) = some (o ++ [slackOf p l cl e (nth ps i).toNat], e + (nth ps i).toNat) := by
  rw [slacksGo, h]; simp only; rw [if_pos h1, if_neg h2]
theorem slacksGo_none1 (h : slacksGo p l cl ps i = some (o, e)) (h1 : ¬ (1 ≤ nth ps i ∧ nth ps i ≤ (l.length : Int) - (e : Int))) : slacksGo p l cl ps (i + 1) = none := by
  rw [slacksGo, h]; simp only; rw [if_neg h1]
theorem slacksGo_none2 (h : slacksGo p l cl ps i = some (o, e)) (h1 : 1 ≤ nth ps i ∧ nth ps i ≤ (l.length : Int) - (e : Int)) (h2 : slackOf p l cl e (nth ps i).toNat < 0) : slacksGo p l cl ps (i + 1) = none := by
  rw [slacksGo, h]; simp only; rw [if_pos h1, if_pos h2]
theorem slacksGo_le (h : slacksGo p l cl ps i = none) : ∀ {j : Nat}, i ≤ j → slacksGo p l cl ps j = none
  | 0, hj => by obtain rfl : i = 0 := by omega
                exact h
  | j + 1, hj => by
    rcases Nat.lt_or_ge i (j + 1) with h1 | h1
    · rw [slacksGo, slacksGo_le h (j := j) (by omega)]
    · obtain rfl : i = j + 1 := by omega
      exact h
end
def slacks (p : Int) (l : List Int) (cl : Int) (ps : List Int) : Option (List Int × Nat) := slacksGo p l cl ps ps.length
def slRow (x : Option (List Int × Nat)) : List Int := match x with | some y => y.1 | none => []
def slAt (x : Option (List Int × Nat)) : Int := match x with | some y => (y.2 : Int) | none => 0
theorem slacksOf_spec {w : World} {A A3 : Option Addr} {c c3 : Nat} {p cl : Int} {l ps : List Int} (hs : Sl w 1 A l.length c (l.flatMap intC)) (hs3 : Sl w 1 A3 ps.length c3 (ps.flatMap intC)) (hv : validConvoy p l = true) (hcl : 1 ≤ cl ∧ cl ≤ 20) (hps : ps.length ≤ 1048576) :
    Calls Try.prog 64 #[.agg #[.int .i64 p, .slice A l.length c], .int .i64 cl, .slice A3 ps.length c3] w (RetRow w 3 1 (slRow (slacks p l cl ps)).length ((slRow (slacks p l cl ps)).flatMap intC) (fun v => .tuple #[v, .bool ((slacks p l cl ps).isSome && decide (slAt (slacks p l cl ps) = (l.length : Int)))])) := by
  obtain ⟨hp1, hp2, hl1, hl2, hbb⟩ := validConvoy_ok hv
  refine calls_of_run (vs := [_, _, _]) (L := [(0, _), (1, _), (2, _)]) (n := 57) (F := []) (H := []) Try.func64 rfl rfl rfl rfl (HOk.start _) ?_
  refine Run.seq ?_
  refine Run.ops ?_
  refine SOps.one rfl (One.box (cs := [_, _]) rfl rfl rfl (fun b1 => ?_))
  refine SOps.st rfl rfl (Yv.assign rfl).yl ?_
  refine SOps.st rfl rfl (Yv.assign rfl).yl ?_
  refine SOps.nil ?_
  refine Run.seq ?_
  refine Run.ops ?_
  refine SOps.one rfl (One.buildSliceG (pv := []) (cs := []) (fun _ => []) rfl el22 .nil rfl rfl (by kernel_rfl) rfl rfl (fun b2 => ?_))
  refine SOps.st rfl rfl (Yv.assign rfl).yl ?_
  refine SOps.st rfl rfl (Yv.assign rfl).yl ?_
  refine SOps.nil ?_
  refine Run.seq ?_
  refine Run.seq ?_
  refine Run.quiet (by intro h; cases h) ?_
  refine QOps.st rfl rfl (Yv.move rfl).yl ?_
  refine QOps.st rfl rfl (Yv.lenS el22s rfl).yl ?_
  refine QOps.st rfl rfl (Yv.move rfl).yl ?_
  refine QOps.nil ?_
  refine Run.block ?_
  refine Run.loop (S := Nat × List Int × Option Addr × Nat × Nat) (fun s => match s with | (i, o, A2, c2, e) => i ≤ ps.length ∧ e ≤ l.length ∧ o.length ≤ i ∧ slacksGo p l cl ps i = some (o, e)) (fun s => match s with | (i, o, A2, c2, e) => [(1, .int .i64 cl), (2, .slice A3 ps.length c3), (3, .pointer (some ⟨b1, 0, none⟩)), (8, .slice A2 o.length c2), (9, .int .i64 (e : Int)), (14, .slice A3 ps.length c3), (15, .int .i64 (ps.length : Int)), (16, .int .i64 (i : Int))]) (fun s => match s with | (i, o, A2, c2, e) => [.row A2 c2 3 1 o.length (o.flatMap intC), .blk b1 27 [.int .i64 p, .slice A l.length c]]) (fun s => match s with | (i, o, A2, c2, e) => ps.length - i) (0, [], some ⟨b2, 0, none⟩, 0, 0) ?_ (SubE.cons rfl (SubE.cons rfl (SubE.cons rfl (SubE.cons rfl (SubE.cons rfl (SubE.cons rfl (SubE.cons rfl (SubE.cons rfl (SubE.nil _))))))))) (List.Sublist.refl _) ?_
  · exact ⟨by omega, by omega, by simp, rfl⟩
  · rintro ⟨i, o, A2, c2, e⟩ ⟨hi, he, hol, hst⟩
    show Run _ _ _ _ _ [(1, .int .i64 cl), (2, .slice A3 ps.length c3), (3, .pointer (some ⟨b1, 0, none⟩)), (8, .slice A2 o.length c2), (9, .int .i64 (e : Int)), (14, .slice A3 ps.length c3), (15, .int .i64 (ps.length : Int)), (16, .int .i64 (i : Int))] [.row A2 c2 3 1 o.length (o.flatMap intC), .blk b1 27 [.int .i64 p, .slice A l.length c]] _
    refine Run.seq ?_
    refine Run.quiet (by intro h; cases h) ?_
    refine QOps.st rfl rfl (Yv.lss rfl rfl).yl ?_
    refine QOps.nil ?_
    refine Run.seq ?_
    refine Run.cond rfl (fun hc1 => ?_) (fun hc1 => ?_)
    · try replace hc1 := of_decide_eq_true hc1
      refine Run.skip ?_
      refine Run.seq ?_
      refine Run.block ?_
      refine Run.seq ?_
      refine Run.quiet (by intro h; cases h) ?_
      refine QOps.st rfl rfl (Yv.indexAddr i el22 rfl rfl rfl (Rd.arg hs3) (by omega)).yl ?_
      refine QOps.st rfl rfl (Yv.loadE lay3 rfl intC_len (Rd.arg hs3) (by first | omega | (simp; omega)) rfl).yl ?_
      refine QOps.st rfl rfl (Yv.assign rfl).yl ?_
      refine QOps.nil ?_
      refine Run.seq ?_
      refine Run.seq ?_
      refine Run.quiet (by intro h; cases h) ?_
      refine QOps.st rfl rfl (Yv.move rfl).yl ?_
      refine QOps.st rfl rfl (Yv.fieldAddr fld27_1 rfl).yl ?_
      refine QOps.st rfl rfl (Yv.loadB (i := 1) lay22 rfl rfl rfl rfl).yl ?_
      refine QOps.st rfl rfl (Yv.lenS el22s rfl).yl ?_
      refine QOps.st rfl rfl (Yv.move rfl).yl ?_
      refine QOps.st rfl rfl (Yv.sub rfl rfl (by omega)).yl ?_
      refine QOps.st rfl rfl (Yl.call callable55 (.cons rfl (.cons rfl (.cons rfl (.nil)))) (fun w' hw' => inside_spec)) ?_
      refine QOps.st rfl rfl (Yv.not rfl).yl ?_
      refine QOps.nil ?_
      refine Run.cond rfl (fun hc2 => ?_) (fun hc2 => ?_)
      · try replace hc2 := of_decide_eq_true hc2
        refine Run.seq ?_
        refine Run.quiet (by intro h; cases h) ?_
        refine QOps.st rfl rfl (Yv.assign rfl).yl ?_
        refine QOps.st rfl rfl (Yv.assign rfl).yl ?_
        refine QOps.nil ?_
        refine Run.ret ?_
        have hz : slacks p l cl ps = none := slacksGo_le (slacksGo_none1 hst (by rw [← inB_iff]; simpa using hc2)) (show i + 1 ≤ ps.length by omega)
        refine retQ.of (.inr rfl) rfl (.tmp rfl (.tmp rfl .nil)) (fun w' hw' => ?_)
        rw [hz]; exact ⟨_, _, rfl, hw'.bel.below, ⟨by first | rfl | simp, .inl ⟨rfl, rfl⟩⟩, by simp⟩
      · try replace hc2 := of_decide_eq_false hc2
        have hq := inB_iff.1 (by simpa using hc2 : inB (nth ps i) 1 ((l.length : Int) - (e : Int)) = true)
        have hb1 := sumTo_bnd hbb (n := e) (by omega)
        have hb2 := sumTo_bnd hbb (n := e + (nth ps i).toNat) (by omega)
        have hsl : slackOf p l cl e (nth ps i).toNat = cl - p - (sumTo l (e + (nth ps i).toNat) - sumTo l e) := by unfold slackOf; omega
        refine Run.skip ?_
        refine Run.seq ?_
        refine Run.quiet (fun _ => ⟨by kernel_rfl, by kernel_rfl⟩) ?_
        refine QOps.st rfl rfl (Yv.move rfl).yl ?_
        refine QOps.st rfl rfl (Yv.fieldAddr fld27_0 rfl).yl ?_
        refine QOps.st rfl rfl (Yv.loadB (i := 1) lay3 rfl rfl rfl rfl).yl ?_
        refine QOps.st rfl rfl (Yv.sub rfl rfl (by omega)).yl ?_
        refine QOps.st rfl rfl (Yv.fieldAddr fld27_1 rfl).yl ?_
        refine QOps.st rfl rfl (Yv.loadB (i := 1) lay22 rfl rfl rfl rfl).yl ?_
        refine QOps.st rfl rfl (Yv.move rfl).yl ?_
        refine QOps.st rfl rfl (Yv.move rfl).yl ?_
        refine QOps.st rfl rfl (Yv.move rfl).yl ?_
        refine QOps.st rfl rfl (Yv.add rfl rfl (by omega)).yl ?_
        refine QOps.st rfl rfl (Yv.cutBoth (e) (e + (nth ps i).toNat) el22 rfl rfl rfl rfl (by omega) (by omega) (by have := hs.cap; omega)).yl ?_
        refine QOps.st rfl rfl (Yl.call callable59 (.cons rfl (.nil)) (fun w' hw' => sumCut_spec (e := e) (q := (nth ps i).toNat) (l := l) (by omega) ((Rd.cutT intC_len (Rd.arg hs) (by omega) (by omega)) w' hw') (by omega) (by omega) hbb)) ?_
        refine QOps.st rfl rfl (Yv.sub rfl rfl (by omega)).yl ?_
        refine QOps.st rfl rfl (Yv.assign rfl).yl ?_
        refine QOps.nil ?_
        refine Run.seq ?_
        refine Run.seq ?_
        refine Run.quiet (by intro h; cases h) ?_
        refine QOps.st rfl rfl (Yv.move rfl).yl ?_
        refine QOps.st rfl rfl (Yv.lss rfl rfl).yl ?_
        refine QOps.nil ?_
        refine Run.cond rfl (fun hc3 => ?_) (fun hc3 => ?_)
        · try replace hc3 := of_decide_eq_true hc3
          refine Run.seq ?_
          refine Run.quiet (by intro h; cases h) ?_
          refine QOps.st rfl rfl (Yv.assign rfl).yl ?_
          refine QOps.st rfl rfl (Yv.assign rfl).yl ?_
          refine QOps.nil ?_
          refine Run.ret ?_
          have hz : slacks p l cl ps = none := slacksGo_le (slacksGo_none2 hst hq (by rw [hsl]; exact hc3)) (show i + 1 ≤ ps.length by omega)
          refine retQ.of (.inr rfl) rfl (.tmp rfl (.tmp rfl .nil)) (fun w' hw' => ?_)
          rw [hz]; exact ⟨_, _, rfl, hw'.bel.below, ⟨by first | rfl | simp, .inl ⟨rfl, rfl⟩⟩, by simp⟩
        · try replace hc3 := of_decide_eq_false hc3
          refine Run.skip ?_
          refine Run.seq ?_
          refine Run.ops ?_
          refine SOps.st rfl rfl (Yv.move rfl).yl ?_
          refine SOps.st rfl rfl (Yv.move rfl).yl ?_
          refine SOps.one rfl (One.buildSliceG (pv := [(0, _)]) (cs := [_]) (fun l => match l with | [a0_0] => [a0_0] | _ => []) rfl el22 (.cons rfl (.nil)) rfl rfl (by kernel_rfl) rfl rfl (fun b3 => ?_))
          refine SOps.one rfl (One.append (enc := intC) (l := o) (l2 := [cl - p - (sumTo l (e + (nth ps i).toNat) - sumTo l e)]) (m' := (o ++ [cl - p - (sumTo l (e + (nth ps i).toNat) - sumTo l e)]).length) (i := 1) (H' := fun A c => [_, _, _]) rfl el22 zero3 rfl (by decide) rfl rfl rfl (Rd.row (i := 0) rfl) (fun _ => rfl) (by simp) (by simp; omega) (by simp; omega) (fun _ _ => rfl) (fun A1 c1 => ?_))
          refine SOps.st rfl rfl (Yv.assign rfl).yl ?_
          refine SOps.nil ?_
          refine Run.quiet (by intro h; cases h) ?_
          refine QOps.st rfl rfl (Yv.move rfl).yl ?_
          refine QOps.st rfl rfl (Yv.move rfl).yl ?_
          refine QOps.st rfl rfl (Yv.add rfl rfl (by omega)).yl ?_
          refine QOps.st rfl rfl (Yv.assign rfl).yl ?_
          refine QOps.nil ?_
          refine Run.quiet (by intro h; cases h) ?_
          refine QOps.st rfl rfl (Yv.succN rfl rfl (by omega)).yl ?_
          refine QOps.st rfl rfl (Yv.move rfl).yl ?_
          refine QOps.nil ?_
          refine ⟨(i + 1, _, _, _, e + (nth ps i).toNat), ?_, ?_, (SubE.cons rfl (SubE.cons rfl (SubE.cons rfl (SubE.cons rfl (SubE.cons (congrArg some (by congr 1; omega)) (SubE.cons rfl (SubE.cons rfl (SubE.cons rfl (SubE.nil _))))))))), (List.Sublist.cons _ (List.Sublist.refl _))⟩
          · exact ⟨by omega, by omega, by simp; omega, by rw [slacksGo_some hst hq (by rw [hsl]; exact hc3), hsl]⟩
          · first | omega | (dsimp only; omega)
    · try replace hc1 := of_decide_eq_false hc1
      refine Run.exit ?_
      refine Run.seq ?_
      refine Run.quiet (fun _ => ⟨by kernel_rfl, by kernel_rfl⟩) ?_
      refine QOps.st rfl rfl (Yv.move rfl).yl ?_
      refine QOps.st rfl rfl (Yv.move rfl).yl ?_
      refine QOps.st rfl rfl (Yv.fieldAddr fld27_1 rfl).yl ?_
      refine QOps.st rfl rfl (Yv.loadB (i := 1) lay22 rfl rfl rfl rfl).yl ?_
      refine QOps.st rfl rfl (Yv.lenS el22s rfl).yl ?_
      refine QOps.st rfl rfl (Yv.eqI rfl rfl).yl ?_
      refine QOps.st rfl rfl (Yv.assign rfl).yl ?_
      refine QOps.st rfl rfl (Yv.assign rfl).yl ?_
      refine QOps.nil ?_
      refine Run.ret ?_
      obtain rfl : i = ps.length := by omega
      have hz : slacks p l cl ps = some (o, e) := hst
      refine retQ.of (.inr rfl) rfl (.tmp rfl (.tmp rfl .nil)) (fun w' hw' => ?_)
      rw [hz]; exact ⟨_, _, rfl, hw'.bel.below, hw'.ent _ (List.mem_of_getElem? (i := 0) rfl), fun g hg => (hw'.own _ (List.mem_of_getElem? (i := 0) rfl) g hg).elim id (by simp)⟩
theorem l19Slacks_spec {w : World} {A A3 : Option Addr} {c c3 : Nat} {p cl : Int} {l ps : List Int} (hs : Sl w 1 A l.length c (l.flatMap intC)) (hs3 : Sl w 1 A3 ps.length c3 (ps.flatMap intC)) (hv : validConvoy p l = true) (hcl : 1 ≤ cl ∧ cl ≤ 20) (hps : ps.length ≤ 1048576) :
    Calls Try.prog 72 #[.agg #[.int .i64 p, .slice A l.length c], .int .i64 cl, .slice A3 ps.length c3] w (RetRow w 3 1 (slRow (slacks p l cl ps)).length ((slRow (slacks p l cl ps)).flatMap intC) (fun v => .tuple #[v, .int .i64 (slAt (slacks p l cl ps)), .bool (slacks p l cl ps).isSome])) := by
  obtain ⟨hp1, hp2, hl1, hl2, hbb⟩ := validConvoy_ok hv
  refine calls_of_run (vs := [_, _, _]) (L := [(0, _), (1, _), (2, _)]) (n := 64) (F := []) (H := []) Try.func72 rfl rfl rfl rfl (HOk.start _) ?_
  refine Run.seq ?_
  refine Run.ops ?_
  refine SOps.one rfl (One.box (cs := [_, _]) rfl rfl rfl (fun b1 => ?_))
  refine SOps.st rfl rfl (Yv.assign rfl).yl ?_
  refine SOps.st rfl rfl (Yv.assign rfl).yl ?_
  refine SOps.st rfl rfl (Yv.assign rfl).yl ?_
  refine SOps.nil ?_
  refine Run.seq ?_
  refine Run.ops ?_
  refine SOps.one rfl (One.buildSliceG (pv := []) (cs := []) (fun _ => []) rfl el22 .nil rfl rfl (by kernel_rfl) rfl rfl (fun b2 => ?_))
  refine SOps.st rfl rfl (Yv.assign rfl).yl ?_
  refine SOps.nil ?_
  refine Run.seq ?_
  refine Run.quiet (by intro h; cases h) ?_
  refine QOps.st rfl rfl (Yv.assign rfl).yl ?_
  refine QOps.nil ?_
  refine Run.seq ?_
  refine Run.seq ?_
  refine Run.quiet (by intro h; cases h) ?_
  refine QOps.st rfl rfl (Yv.assign rfl).yl ?_
  refine QOps.nil ?_
  refine Run.block ?_
  refine Run.loop (S := Nat × List Int × Option Addr × Nat × Nat) (fun s => match s with | (i, o, A2, c2, e) => i ≤ ps.length ∧ e ≤ l.length ∧ o.length ≤ i ∧ slacksGo p l cl ps i = some (o, e)) (fun s => match s with | (i, o, A2, c2, e) => [(1, .int .i64 cl), (2, .slice A3 ps.length c3), (3, .pointer (some ⟨b1, 0, none⟩)), (9, .slice A2 o.length c2), (10, .int .i64 (e : Int)), (11, .int .i64 (i : Int))]) (fun s => match s with | (i, o, A2, c2, e) => [.row A2 c2 3 1 o.length (o.flatMap intC), .blk b1 27 [.int .i64 p, .slice A l.length c]]) (fun s => match s with | (i, o, A2, c2, e) => ps.length - i) (0, [], some ⟨b2, 0, none⟩, 0, 0) ?_ (SubE.cons rfl (SubE.cons rfl (SubE.cons rfl (SubE.cons rfl (SubE.cons rfl (SubE.cons rfl (SubE.nil _))))))) (List.Sublist.refl _) ?_
  · exact ⟨by omega, by omega, by simp, rfl⟩
  · rintro ⟨i, o, A2, c2, e⟩ ⟨hi, he, hol, hst⟩
    show Run _ _ _ _ _ [(1, .int .i64 cl), (2, .slice A3 ps.length c3), (3, .pointer (some ⟨b1, 0, none⟩)), (9, .slice A2 o.length c2), (10, .int .i64 (e : Int)), (11, .int .i64 (i : Int))] [.row A2 c2 3 1 o.length (o.flatMap intC), .blk b1 27 [.int .i64 p, .slice A l.length c]] _
    refine Run.seq ?_
    refine Run.seq ?_
    refine Run.quiet (by intro h; cases h) ?_
    refine QOps.st rfl rfl (Yv.move rfl).yl ?_
    refine QOps.st rfl rfl (Yv.move rfl).yl ?_
    refine QOps.st rfl rfl (Yv.lenS el22s rfl).yl ?_
    refine QOps.st rfl rfl (Yv.lss rfl rfl).yl ?_
    refine QOps.nil ?_
    refine Run.cond rfl (fun hc1 => ?_) (fun hc1 => ?_)
    · try replace hc1 := of_decide_eq_true hc1
      refine Run.skip ?_
      refine Run.seq ?_
      refine Run.block ?_
      refine Run.seq ?_
      refine Run.seq ?_
      refine Run.quiet (fun _ => ⟨by kernel_rfl, by kernel_rfl⟩) ?_
      refine QOps.st rfl rfl (Yv.move rfl).yl ?_
      refine QOps.st rfl rfl (Yv.move rfl).yl ?_
      refine QOps.st rfl rfl (Yv.indexAddr i el22 rfl rfl rfl (Rd.arg hs3) (by omega)).yl ?_
      refine QOps.st rfl rfl (Yv.loadE lay3 rfl intC_len (Rd.arg hs3) (by first | omega | (simp; omega)) rfl).yl ?_
      refine QOps.st rfl rfl (Yv.lss rfl rfl).yl ?_
      refine QOps.st rfl rfl (Yv.move rfl).yl ?_
      refine' QOps.or [_, _, _, _, _, _, _, _, _, _] _ (.tmp 35) rfl rfl rfl rfl rfl rfl (fun hg1 => ?_) ?_
      rotate_left
      · try replace hg1 := of_decide_eq_false hg1
        refine QOps.st rfl rfl (Yv.move rfl).yl ?_
        refine QOps.st rfl rfl (Yv.move rfl).yl ?_
        refine QOps.st rfl rfl (Yv.indexAddr i el22 rfl rfl rfl (Rd.arg hs3) (by omega)).yl ?_
        refine QOps.st rfl rfl (Yv.loadE lay3 rfl intC_len (Rd.arg hs3) (by first | omega | (simp; omega)) rfl).yl ?_
        refine QOps.st rfl rfl (Yv.fieldAddr fld27_1 rfl).yl ?_
        refine QOps.st rfl rfl (Yv.loadB (i := 1) lay22 rfl rfl rfl rfl).yl ?_
        refine QOps.st rfl rfl (Yv.lenS el22s rfl).yl ?_
        refine QOps.st rfl rfl (Yv.move rfl).yl ?_
        refine QOps.st rfl rfl (Yv.sub rfl rfl (by omega)).yl ?_
        refine QOps.st rfl rfl (Yv.gtr rfl rfl).yl ?_
        exact QOps.nil rfl
      refine QOps.nil ?_
      refine Run.cond rfl (fun hc2 => ?_) (fun hc2 => ?_)
      · try replace hc2 := of_decide_eq_true hc2
        refine Run.seq ?_
        refine Run.ops ?_
        refine SOps.one rfl (One.buildSliceG (pv := []) (cs := []) (fun _ => []) rfl el22 .nil rfl rfl (by kernel_rfl) rfl rfl (fun b3 => ?_))
        refine SOps.st rfl rfl (Yv.assign rfl).yl ?_
        refine SOps.st rfl rfl (Yv.assign rfl).yl ?_
        refine SOps.st rfl rfl (Yv.assign rfl).yl ?_
        refine SOps.nil ?_
        refine Run.ret ?_
        have hz : slacks p l cl ps = none := slacksGo_le (slacksGo_none1 hst (by simp at hc2; omega)) (show i + 1 ≤ ps.length by omega)
        refine retQ.of (.inr rfl) rfl (.tmp rfl (.tmp rfl (.tmp rfl .nil))) (fun w' hw' => ?_)
        rw [hz]; exact ⟨_, _, rfl, hw'.bel.below, hw'.ent _ (List.mem_of_getElem? (i := 0) rfl), fun g hg => (hw'.own _ (List.mem_of_getElem? (i := 0) rfl) g hg).elim id (by simp)⟩
      · try replace hc2 := of_decide_eq_false hc2
        have hq : 1 ≤ nth ps i ∧ nth ps i ≤ (l.length : Int) - (e : Int) := by simp at hc2; omega
        have hb1 := sumTo_bnd hbb (n := e) (by omega)
        have hb2 := sumTo_bnd hbb (n := e + (nth ps i).toNat) (by omega)
        refine Run.skip ?_
        refine Run.seq ?_
        refine Run.quiet (fun _ => ⟨by kernel_rfl, by kernel_rfl⟩) ?_
        refine QOps.st rfl rfl (Yv.move rfl).yl ?_
        refine QOps.st rfl rfl (Yv.loadBs (i := 1) lay27 rfl rfl rfl rfl).yl ?_
        refine QOps.st rfl rfl (Yv.move rfl).yl ?_
        refine QOps.st rfl rfl (Yv.move rfl).yl ?_
        refine QOps.st rfl rfl (Yv.move rfl).yl ?_
        refine QOps.st rfl rfl (Yv.move rfl).yl ?_
        refine QOps.st rfl rfl (Yv.indexAddr i el22 rfl rfl rfl (Rd.arg hs3) (by omega)).yl ?_
        refine QOps.st rfl rfl (Yv.loadE lay3 rfl intC_len (Rd.arg hs3) (by first | omega | (simp; omega)) rfl).yl ?_
        refine QOps.st rfl rfl (Yv.add rfl rfl (by omega)).yl ?_
        refine QOps.st rfl rfl (Yl.call callable58 (.cons rfl (.cons rfl (.cons rfl (.nil)))) (fun w' hw' => l19SumI_spec e (e + (nth ps i).toNat) rfl (by omega) (Rd.arg hs _ hw') (by omega) ⟨hp1, hp2⟩ hbb (by omega) (by omega))) ?_
        refine QOps.st rfl rfl (Yv.sub rfl rfl (by omega)).yl ?_
        refine QOps.st rfl rfl (Yv.assign rfl).yl ?_
        refine QOps.nil ?_
        refine Run.seq ?_
        refine Run.seq ?_
        refine Run.quiet (by intro h; cases h) ?_
        refine QOps.st rfl rfl (Yv.move rfl).yl ?_
        refine QOps.st rfl rfl (Yv.lss rfl rfl).yl ?_
        refine QOps.nil ?_
        refine Run.cond rfl (fun hc3 => ?_) (fun hc3 => ?_)
        · try replace hc3 := of_decide_eq_true hc3
          refine Run.seq ?_
          refine Run.ops ?_
          refine SOps.one rfl (One.buildSliceG (pv := []) (cs := []) (fun _ => []) rfl el22 .nil rfl rfl (by kernel_rfl) rfl rfl (fun b4 => ?_))
          refine SOps.st rfl rfl (Yv.assign rfl).yl ?_
          refine SOps.st rfl rfl (Yv.assign rfl).yl ?_
          refine SOps.st rfl rfl (Yv.assign rfl).yl ?_
          refine SOps.nil ?_
          refine Run.ret ?_
          have hz : slacks p l cl ps = none := slacksGo_le (slacksGo_none2 hst hq hc3) (show i + 1 ≤ ps.length by omega)
          refine retQ.of (.inr rfl) rfl (.tmp rfl (.tmp rfl (.tmp rfl .nil))) (fun w' hw' => ?_)
          rw [hz]; exact ⟨_, _, rfl, hw'.bel.below, hw'.ent _ (List.mem_of_getElem? (i := 0) rfl), fun g hg => (hw'.own _ (List.mem_of_getElem? (i := 0) rfl) g hg).elim id (by simp)⟩
        · try replace hc3 := of_decide_eq_false hc3
          refine Run.skip ?_
          refine Run.seq ?_
          refine Run.ops ?_
          refine SOps.st rfl rfl (Yv.move rfl).yl ?_
          refine SOps.st rfl rfl (Yv.move rfl).yl ?_
          refine SOps.one rfl (One.buildSliceG (pv := [(0, _)]) (cs := [_]) (fun l => match l with | [a0_0] => [a0_0] | _ => []) rfl el22 (.cons rfl (.nil)) rfl rfl (by kernel_rfl) rfl rfl (fun b5 => ?_))
          refine SOps.one rfl (One.append (enc := intC) (l := o) (l2 := [cl - (p + (sumTo l (e + (nth ps i).toNat) - sumTo l e))]) (m' := (o ++ [cl - (p + (sumTo l (e + (nth ps i).toNat) - sumTo l e))]).length) (i := 1) (H' := fun A c => [_, _, _]) rfl el22 zero3 rfl (by decide) rfl rfl rfl (Rd.row (i := 0) rfl) (fun _ => rfl) (by simp) (by simp; omega) (by simp; omega) (fun _ _ => rfl) (fun A1 c1 => ?_))
          refine SOps.st rfl rfl (Yv.assign rfl).yl ?_
          refine SOps.nil ?_
          refine Run.quiet (by intro h; cases h) ?_
          refine QOps.st rfl rfl (Yv.move rfl).yl ?_
          refine QOps.st rfl rfl (Yv.move rfl).yl ?_
          refine QOps.st rfl rfl (Yv.move rfl).yl ?_
          refine QOps.st rfl rfl (Yv.indexAddr i el22 rfl rfl rfl (Rd.arg hs3) (by omega)).yl ?_
          refine QOps.st rfl rfl (Yv.loadE lay3 rfl intC_len (Rd.arg hs3) (by first | omega | (simp; omega)) rfl).yl ?_
          refine QOps.st rfl rfl (Yv.add rfl rfl (by omega)).yl ?_
          refine QOps.st rfl rfl (Yv.assign rfl).yl ?_
          refine QOps.nil ?_
          refine Run.quiet (by intro h; cases h) ?_
          refine QOps.st rfl rfl (Yv.move rfl).yl ?_
          refine QOps.st rfl rfl (Yv.succN rfl rfl (by omega)).yl ?_
          refine QOps.st rfl rfl (Yv.assign rfl).yl ?_
          refine QOps.nil ?_
          refine ⟨(i + 1, _, _, _, e + (nth ps i).toNat), ?_, ?_, (SubE.cons rfl (SubE.cons rfl (SubE.cons rfl (SubE.cons rfl (SubE.cons (congrArg some (by congr 1; omega)) (SubE.cons rfl (SubE.nil _))))))), (List.Sublist.cons _ (List.Sublist.refl _))⟩
          · exact ⟨by omega, by omega, by simp; omega, slacksGo_some hst hq hc3⟩
          · first | omega | (dsimp only; omega)
    · try replace hc1 := of_decide_eq_false hc1
      refine Run.exit ?_
      refine Run.seq ?_
      refine Run.quiet (by intro h; cases h) ?_
      refine QOps.st rfl rfl (Yv.move rfl).yl ?_
      refine QOps.st rfl rfl (Yv.move rfl).yl ?_
      refine QOps.st rfl rfl (Yv.assign rfl).yl ?_
      refine QOps.st rfl rfl (Yv.assign rfl).yl ?_
      refine QOps.st rfl rfl (Yv.assign rfl).yl ?_
      refine QOps.nil ?_
      refine Run.ret ?_
      obtain rfl : i = ps.length := by omega
      have hz : slacks p l cl ps = some (o, e) := hst
      refine retQ.of (.inr rfl) rfl (.tmp rfl (.tmp rfl (.tmp rfl .nil))) (fun w' hw' => ?_)
      rw [hz]; exact ⟨_, _, rfl, hw'.bel.below, hw'.ent _ (List.mem_of_getElem? (i := 0) rfl), fun g hg => (hw'.own _ (List.mem_of_getElem? (i := 0) rfl) g hg).elim id (by simp)⟩
/-- Are these parts a split for this chamber? -/
def isSplit (p : Int) (l : List Int) (cl : Int) (ps : List Int) : Bool := validConvoy p l && inB cl 1 20 && ((slacks p l cl ps).isSome && decide (slAt (slacks p l cl ps) = (l.length : Int)))
theorem isSplit_no {p cl : Int} {l ps : List Int} (h : ¬ (validConvoy p l && inB cl 1 20) = true) : isSplit p l cl ps = false := by
  unfold isSplit
  rw [Bool.not_eq_true] at h
  rw [h]; rfl
theorem isSplit_yes {p cl : Int} {l ps : List Int} (h : (validConvoy p l && inB cl 1 20) = true) : isSplit p l cl ps = ((slacks p l cl ps).isSome && decide (slAt (slacks p l cl ps) = (l.length : Int))) := by
  unfold isSplit
  rw [h]; rfl
theorem IsSplit_spec {w : World} {A A3 : Option Addr} {c c3 : Nat} {p cl : Int} {l ps : List Int} (hs : Sl w 1 A l.length c (l.flatMap intC)) (hs3 : Sl w 1 A3 ps.length c3 (ps.flatMap intC)) (hps : ps.length ≤ 1048576) :
    Calls Try.prog 24 #[.agg #[.int .i64 p, .slice A l.length c], .int .i64 cl, .slice A3 ps.length c3] w (RetB w (.bool (isSplit p l cl ps))) := by
  refine calls_of_run (vs := [_, _, _]) (L := [(0, _), (1, _), (2, _)]) (n := 21) (F := []) (H := []) Try.func24 rfl rfl rfl rfl (HOk.start _) ?_
  refine Run.seq ?_
  refine Run.ops ?_
  refine SOps.one rfl (One.box (cs := [_, _]) rfl rfl rfl (fun b1 => ?_))
  refine SOps.st rfl rfl (Yv.assign rfl).yl ?_
  refine SOps.nil ?_
  refine Run.seq ?_
  refine Run.seq ?_
  refine Run.quiet (by intro h; cases h) ?_
  refine QOps.st rfl rfl (Yv.loadBs (i := 0) lay27 rfl rfl rfl rfl).yl ?_
  refine QOps.st rfl rfl (Yv.move rfl).yl ?_
  refine QOps.st rfl rfl (Yl.call callable63 (.cons rfl (.cons rfl (.nil))) (fun w' hw' => isChamberLength_spec ((Rd.arg hs) w' hw'))) ?_
  refine QOps.st rfl rfl (Yv.not rfl).yl ?_
  refine QOps.nil ?_
  refine Run.cond rfl (fun hc1 => ?_) (fun hc1 => ?_)
  · try replace hc1 := of_decide_eq_true hc1
    have hn : ¬ (validConvoy p l && inB cl 1 20) = true := by revert hc1; cases validConvoy p l <;> cases inB cl 1 20 <;> simp
    refine Run.seq ?_
    refine Run.quiet (by intro h; cases h) ?_
    refine QOps.st rfl rfl (Yv.assign rfl).yl ?_
    refine QOps.nil ?_
    refine Run.ret ?_
    refine retQ.of (.inr rfl) rfl (.tmp rfl .nil) (fun w' hw' => ?_)
    refine ⟨?_, hw'.bel.below⟩
    refine retB_eq ?_
    exact (isSplit_no hn).symm
  · try replace hc1 := of_decide_eq_false hc1
    have hy : (validConvoy p l && inB cl 1 20) = true := by revert hc1; cases validConvoy p l <;> cases inB cl 1 20 <;> simp
    have hyy := hy
    simp only [Bool.and_eq_true] at hyy
    obtain ⟨hg0, hg1⟩ := hyy
    have hcl := inB_iff.1 hg1
    refine Run.skip ?_
    refine Run.seq ?_
    refine Run.ops ?_
    refine SOps.st rfl rfl (Yv.loadBs (i := 0) lay27 rfl rfl rfl rfl).yl ?_
    refine SOps.st rfl rfl (Yv.move rfl).yl ?_
    refine SOps.st rfl rfl (Yv.move rfl).yl ?_
    refine SOps.one rfl (One.callRow rfl callable64 (.cons rfl (.cons rfl (.cons rfl (.nil)))) (fun w' hw' => slacksOf_spec ((Rd.arg hs) w' hw') ((Rd.arg hs3) w' hw') (by assumption) (by assumption) (by omega)) (fun A1 c1 => ?_))
    refine SOps.st rfl rfl (Yv.move rfl).yl ?_
    refine SOps.st rfl rfl (Yv.extract rfl rfl).yl ?_
    refine SOps.st rfl rfl (Yv.extract rfl rfl).yl ?_
    refine SOps.st rfl rfl (Yv.assign rfl).yl ?_
    refine SOps.st rfl rfl (Yv.assign rfl).yl ?_
    refine SOps.nil ?_
    refine Run.seq ?_
    refine Run.quiet (by intro h; cases h) ?_
    refine QOps.st rfl rfl (Yv.move rfl).yl ?_
    refine QOps.st rfl rfl (Yv.assign rfl).yl ?_
    refine QOps.nil ?_
    refine Run.ret ?_
    refine retQ.of (.inr rfl) rfl (.tmp rfl .nil) (fun w' hw' => ?_)
    refine ⟨?_, hw'.bel.below⟩
    refine retB_eq ?_
    exact (isSplit_yes hy).symm
theorem l19Split_spec {w : World} {A A3 : Option Addr} {c c3 : Nat} {p cl : Int} {l ps : List Int} (hs : Sl w 1 A l.length c (l.flatMap intC)) (hs3 : Sl w 1 A3 ps.length c3 (ps.flatMap intC)) (hps : ps.length ≤ 1048576) :
    Calls Try.prog 65 #[.agg #[.int .i64 p, .slice A l.length c], .int .i64 cl, .slice A3 ps.length c3] w (RetB w (.bool (isSplit p l cl ps))) := by
  refine calls_of_run (vs := [_, _, _]) (L := [(0, _), (1, _), (2, _)]) (n := 34) (F := []) (H := []) Try.func65 rfl rfl rfl rfl (HOk.start _) ?_
  refine Run.seq ?_
  refine Run.ops ?_
  refine SOps.one rfl (One.box (cs := [_, _]) rfl rfl rfl (fun b1 => ?_))
  refine SOps.st rfl rfl (Yv.assign rfl).yl ?_
  refine SOps.nil ?_
  refine Run.seq ?_
  refine Run.seq ?_
  refine Run.quiet (by intro h; cases h) ?_
  refine QOps.st rfl rfl (Yv.loadBs (i := 0) lay27 rfl rfl rfl rfl).yl ?_
  refine QOps.st rfl rfl (Yl.call callable54 (.cons rfl (.nil)) (fun w' hw' => l19Good_spec ((Rd.arg hs) w' hw'))) ?_
  refine QOps.st rfl rfl (Yv.not rfl).yl ?_
  refine QOps.st rfl rfl (Yv.move rfl).yl ?_
  refine' QOps.or [_, _, _] _ (.tmp 16) rfl rfl rfl rfl rfl rfl (fun hg1 => ?_) ?_
  rotate_left
  · try replace hg1 := of_decide_eq_false hg1
    refine QOps.st rfl rfl (Yv.move rfl).yl ?_
    refine QOps.st rfl rfl (Yl.call callable67 (.cons rfl (.nil)) (fun w' hw' => l19Length_spec)) ?_
    refine QOps.st rfl rfl (Yv.not rfl).yl ?_
    exact QOps.nil rfl
  refine QOps.nil ?_
  refine Run.cond rfl (fun hc1 => ?_) (fun hc1 => ?_)
  · try replace hc1 := of_decide_eq_true hc1
    have hn : ¬ (validConvoy p l && inB cl 1 20) = true := by revert hc1; cases validConvoy p l <;> cases inB cl 1 20 <;> simp
    refine Run.seq ?_
    refine Run.quiet (by intro h; cases h) ?_
    refine QOps.st rfl rfl (Yv.assign rfl).yl ?_
    refine QOps.nil ?_
    refine Run.ret ?_
    refine retQ.of (.inr rfl) rfl (.tmp rfl .nil) (fun w' hw' => ?_)
    refine ⟨?_, hw'.bel.below⟩
    refine retB_eq ?_
    exact (isSplit_no hn).symm
  · try replace hc1 := of_decide_eq_false hc1
    have hy : (validConvoy p l && inB cl 1 20) = true := by revert hc1; cases validConvoy p l <;> cases inB cl 1 20 <;> simp
    have hyy := hy
    simp only [Bool.and_eq_true] at hyy
    obtain ⟨hg0, hg1⟩ := hyy
    have hcl := inB_iff.1 hg1
    refine Run.skip ?_
    refine Run.seq ?_
    refine Run.ops ?_
    refine SOps.st rfl rfl (Yv.loadBs (i := 0) lay27 rfl rfl rfl rfl).yl ?_
    refine SOps.st rfl rfl (Yv.move rfl).yl ?_
    refine SOps.st rfl rfl (Yv.move rfl).yl ?_
    refine SOps.one rfl (One.callRow rfl callable72 (.cons rfl (.cons rfl (.cons rfl (.nil)))) (fun w' hw' => l19Slacks_spec ((Rd.arg hs) w' hw') ((Rd.arg hs3) w' hw') (by assumption) (by assumption) (by omega)) (fun A1 c1 => ?_))
    refine SOps.st rfl rfl (Yv.move rfl).yl ?_
    refine SOps.st rfl rfl (Yv.extract rfl rfl).yl ?_
    refine SOps.st rfl rfl (Yv.extract rfl rfl).yl ?_
    refine SOps.st rfl rfl (Yv.extract rfl rfl).yl ?_
    refine SOps.st rfl rfl (Yv.assign rfl).yl ?_
    refine SOps.st rfl rfl (Yv.assign rfl).yl ?_
    refine SOps.st rfl rfl (Yv.assign rfl).yl ?_
    refine SOps.nil ?_
    refine Run.seq ?_
    refine Run.quiet (by intro h; cases h) ?_
    refine QOps.st rfl rfl (Yv.move rfl).yl ?_
    refine QOps.st rfl rfl (Yv.move rfl).yl ?_
    refine' QOps.and [_, _, _, _, _] _ (.tmp 32) rfl rfl rfl rfl rfl rfl (fun hg2 => ?_) ?_
    rotate_left
    · try replace hg2 := of_decide_eq_true hg2
      refine QOps.st rfl rfl (Yv.move rfl).yl ?_
      refine QOps.st rfl rfl (Yv.fieldAddr fld27_1 rfl).yl ?_
      refine QOps.st rfl rfl (Yv.loadB (i := 1) lay22 rfl rfl rfl rfl).yl ?_
      refine QOps.st rfl rfl (Yv.lenS el22s rfl).yl ?_
      refine QOps.st rfl rfl (Yv.eqI rfl rfl).yl ?_
      exact QOps.nil rfl
    refine QOps.st rfl rfl (Yv.assign rfl).yl ?_
    refine QOps.nil ?_
    refine Run.ret ?_
    refine retQ.of (.inr rfl) rfl (.tmp rfl .nil) (fun w' hw' => ?_)
    refine ⟨?_, hw'.bel.below⟩
    refine retB_eq ?_
    exact (isSplit_yes hy).symm
theorem sIsSplit_spec {w : World} {A A3 : Option Addr} {c c3 : Nat} {p cl : Int} {l ps : List Int} (hs : Sl w 1 A l.length c (l.flatMap intC)) (hs3 : Sl w 1 A3 ps.length c3 (ps.flatMap intC)) (hps : ps.length ≤ 1048576) :
    Calls Try.prog 25 #[.agg #[.int .i64 p, .slice A l.length c], .int .i64 cl, .slice A3 ps.length c3] w (RetB w (.bool (isSplit p l cl ps))) := by
  refine calls_of_run (vs := [_, _, _]) (L := [(0, _), (1, _), (2, _)]) (n := 11) (F := []) (H := []) Try.func25 rfl rfl rfl rfl (HOk.start _) ?_
  refine Run.seq ?_
  refine Run.ops ?_
  refine SOps.one rfl (One.box (cs := [_, _]) rfl rfl rfl (fun b1 => ?_))
  refine SOps.st rfl rfl (Yv.assign rfl).yl ?_
  refine SOps.nil ?_
  refine Run.seq ?_
  refine Run.quiet (by intro h; cases h) ?_
  refine QOps.st rfl rfl (Yv.loadBs (i := 0) lay27 rfl rfl rfl rfl).yl ?_
  refine QOps.st rfl rfl (Yv.move rfl).yl ?_
  refine QOps.st rfl rfl (Yv.move rfl).yl ?_
  refine QOps.st rfl rfl (Yl.call callable65 (.cons rfl (.cons rfl (.cons rfl (.nil)))) (fun w' hw' => l19Split_spec ((Rd.arg hs) w' hw') ((Rd.arg hs3) w' hw') (by omega))) ?_
  refine QOps.st rfl rfl (Yv.assign rfl).yl ?_
  refine QOps.nil ?_
  refine Run.ret ?_
  refine retQ.of (.inr rfl) rfl (.tmp rfl .nil) (fun w' hw' => ?_)
  refine ⟨?_, hw'.bel.below⟩
  exact rfl
def runsOf (p : Int) (l : List Int) (cl : Int) (ps : List Int) : Int × Bool := if isSplit p l cl ps = true then (2 * (ps.length : Int) - 1, true) else (0, false)
def slacksOfRow (p : Int) (l : List Int) (cl : Int) (ps : List Int) : List Int := if isSplit p l cl ps = true then slRow (slacks p l cl ps) else []
theorem RunsOf_spec {w : World} {A A3 : Option Addr} {c c3 : Nat} {p cl : Int} {l ps : List Int} (hs : Sl w 1 A l.length c (l.flatMap intC)) (hs3 : Sl w 1 A3 ps.length c3 (ps.flatMap intC)) (hps : ps.length ≤ 1048576) :
    Calls Try.prog 33 #[.agg #[.int .i64 p, .slice A l.length c], .int .i64 cl, .slice A3 ps.length c3] w (RetB w (.tuple #[.int .i64 (runsOf p l cl ps).1, .bool (runsOf p l cl ps).2])) := by
  refine calls_of_run (vs := [_, _, _]) (L := [(0, _), (1, _), (2, _)]) (n := 17) (F := []) (H := []) Try.func33 rfl rfl rfl rfl (HOk.start _) ?_
  refine Run.seq ?_
  refine Run.ops ?_
  refine SOps.one rfl (One.box (cs := [_, _]) rfl rfl rfl (fun b1 => ?_))
  refine SOps.st rfl rfl (Yv.assign rfl).yl ?_
  refine SOps.st rfl rfl (Yv.assign rfl).yl ?_
  refine SOps.nil ?_
  refine Run.seq ?_
  refine Run.seq ?_
  refine Run.quiet (by intro h; cases h) ?_
  refine QOps.st rfl rfl (Yv.loadBs (i := 0) lay27 rfl rfl rfl rfl).yl ?_
  refine QOps.st rfl rfl (Yv.move rfl).yl ?_
  refine QOps.st rfl rfl (Yv.move rfl).yl ?_
  refine QOps.st rfl rfl (Yl.call callable24 (.cons rfl (.cons rfl (.cons rfl (.nil)))) (fun w' hw' => IsSplit_spec ((Rd.arg hs) w' hw') ((Rd.arg hs3) w' hw') (by omega))) ?_
  refine QOps.st rfl rfl (Yv.not rfl).yl ?_
  refine QOps.nil ?_
  refine Run.cond rfl (fun hc1 => ?_) (fun hc1 => ?_)
  · try replace hc1 := of_decide_eq_true hc1
    have hn : ¬ isSplit p l cl ps = true := by simpa using hc1
    refine Run.seq ?_
    refine Run.quiet (by intro h; cases h) ?_
    refine QOps.st rfl rfl (Yv.assign rfl).yl ?_
    refine QOps.st rfl rfl (Yv.assign rfl).yl ?_
    refine QOps.nil ?_
    refine Run.ret ?_
    refine retQ.of (.inr rfl) rfl (.tmp rfl (.tmp rfl .nil)) (fun w' hw' => ?_)
    refine ⟨?_, hw'.bel.below⟩
    unfold runsOf; rw [if_neg hn]; rfl
  · try replace hc1 := of_decide_eq_false hc1
    have hy : isSplit p l cl ps = true := by simpa using hc1
    refine Run.skip ?_
    refine Run.seq ?_
    refine Run.quiet (by intro h; cases h) ?_
    refine QOps.st rfl rfl (Yv.move rfl).yl ?_
    refine QOps.st rfl rfl (Yv.lenS el22s rfl).yl ?_
    refine QOps.st rfl rfl (Yv.mul rfl rfl (by omega)).yl ?_
    refine QOps.st rfl rfl (Yv.sub rfl rfl (by omega)).yl ?_
    refine QOps.st rfl rfl (Yv.assign rfl).yl ?_
    refine QOps.st rfl rfl (Yv.assign rfl).yl ?_
    refine QOps.nil ?_
    refine Run.ret ?_
    refine retQ.of (.inr rfl) rfl (.tmp rfl (.tmp rfl .nil)) (fun w' hw' => ?_)
    refine ⟨?_, hw'.bel.below⟩
    unfold runsOf; rw [if_pos hy]; rfl

theorem sRunsOf_spec {w : World} {A A3 : Option Addr} {c c3 : Nat} {p cl : Int} {l ps : List Int} (hs : Sl w 1 A l.length c (l.flatMap intC)) (hs3 : Sl w 1 A3 ps.length c3 (ps.flatMap intC)) (hps : ps.length ≤ 1048576) :
    Calls Try.prog 34 #[.agg #[.int .i64 p, .slice A l.length c], .int .i64 cl, .slice A3 ps.length c3] w (RetB w (.tuple #[.int .i64 (runsOf p l cl ps).1, .bool (runsOf p l cl ps).2])) := by
  refine calls_of_run (vs := [_, _, _]) (L := [(0, _), (1, _), (2, _)]) (n := 17) (F := []) (H := []) Try.func34 rfl rfl rfl rfl (HOk.start _) ?_
  refine Run.seq ?_
  refine Run.ops ?_
  refine SOps.one rfl (One.box (cs := [_, _]) rfl rfl rfl (fun b1 => ?_))
  refine SOps.st rfl rfl (Yv.assign rfl).yl ?_
  refine SOps.st rfl rfl (Yv.assign rfl).yl ?_
  refine SOps.nil ?_
  refine Run.seq ?_
  refine Run.seq ?_
  refine Run.quiet (by intro h; cases h) ?_
  refine QOps.st rfl rfl (Yv.loadBs (i := 0) lay27 rfl rfl rfl rfl).yl ?_
  refine QOps.st rfl rfl (Yv.move rfl).yl ?_
  refine QOps.st rfl rfl (Yv.move rfl).yl ?_
  refine QOps.st rfl rfl (Yl.call callable65 (.cons rfl (.cons rfl (.cons rfl (.nil)))) (fun w' hw' => l19Split_spec ((Rd.arg hs) w' hw') ((Rd.arg hs3) w' hw') (by omega))) ?_
  refine QOps.st rfl rfl (Yv.not rfl).yl ?_
  refine QOps.nil ?_
  refine Run.cond rfl (fun hc1 => ?_) (fun hc1 => ?_)
  · try replace hc1 := of_decide_eq_true hc1
    have hn : ¬ isSplit p l cl ps = true := by simpa using hc1
    refine Run.seq ?_
    refine Run.quiet (by intro h; cases h) ?_
    refine QOps.st rfl rfl (Yv.assign rfl).yl ?_
    refine QOps.st rfl rfl (Yv.assign rfl).yl ?_
    refine QOps.nil ?_
    refine Run.ret ?_
    refine retQ.of (.inr rfl) rfl (.tmp rfl (.tmp rfl .nil)) (fun w' hw' => ?_)
    refine ⟨?_, hw'.bel.below⟩
    unfold runsOf; rw [if_neg hn]; rfl
  · try replace hc1 := of_decide_eq_false hc1
    have hy : isSplit p l cl ps = true := by simpa using hc1
    refine Run.skip ?_
    refine Run.seq ?_
    refine Run.quiet (by intro h; cases h) ?_
    refine QOps.st rfl rfl (Yv.move rfl).yl ?_
    refine QOps.st rfl rfl (Yv.lenS el22s rfl).yl ?_
    refine QOps.st rfl rfl (Yv.mul rfl rfl (by omega)).yl ?_
    refine QOps.st rfl rfl (Yv.sub rfl rfl (by omega)).yl ?_
    refine QOps.st rfl rfl (Yv.assign rfl).yl ?_
    refine QOps.st rfl rfl (Yv.assign rfl).yl ?_
    refine QOps.nil ?_
    refine Run.ret ?_
    refine retQ.of (.inr rfl) rfl (.tmp rfl (.tmp rfl .nil)) (fun w' hw' => ?_)
    refine ⟨?_, hw'.bel.below⟩
    unfold runsOf; rw [if_pos hy]; rfl

theorem SlacksOf_spec {w : World} {A A3 : Option Addr} {c c3 : Nat} {p cl : Int} {l ps : List Int} (hs : Sl w 1 A l.length c (l.flatMap intC)) (hs3 : Sl w 1 A3 ps.length c3 (ps.flatMap intC)) (hps : ps.length ≤ 1048576) :
    Calls Try.prog 31 #[.agg #[.int .i64 p, .slice A l.length c], .int .i64 cl, .slice A3 ps.length c3] w (RetRow w 3 1 (slacksOfRow p l cl ps).length ((slacksOfRow p l cl ps).flatMap intC) (fun v => .tuple #[v, .bool (isSplit p l cl ps)])) := by
  refine calls_of_run (vs := [_, _, _]) (L := [(0, _), (1, _), (2, _)]) (n := 19) (F := []) (H := []) Try.func31 rfl rfl rfl rfl (HOk.start _) ?_
  refine Run.seq ?_
  refine Run.ops ?_
  refine SOps.one rfl (One.box (cs := [_, _]) rfl rfl rfl (fun b1 => ?_))
  refine SOps.st rfl rfl (Yv.assign rfl).yl ?_
  refine SOps.st rfl rfl (Yv.assign rfl).yl ?_
  refine SOps.nil ?_
  refine Run.seq ?_
  refine Run.seq ?_
  refine Run.quiet (by intro h; cases h) ?_
  refine QOps.st rfl rfl (Yv.loadBs (i := 0) lay27 rfl rfl rfl rfl).yl ?_
  refine QOps.st rfl rfl (Yv.move rfl).yl ?_
  refine QOps.st rfl rfl (Yv.move rfl).yl ?_
  refine QOps.st rfl rfl (Yl.call callable24 (.cons rfl (.cons rfl (.cons rfl (.nil)))) (fun w' hw' => IsSplit_spec ((Rd.arg hs) w' hw') ((Rd.arg hs3) w' hw') (by omega))) ?_
  refine QOps.st rfl rfl (Yv.not rfl).yl ?_
  refine QOps.nil ?_
  refine Run.cond rfl (fun hc1 => ?_) (fun hc1 => ?_)
  · try replace hc1 := of_decide_eq_true hc1
    have hn : isSplit p l cl ps = false := by simpa using hc1
    have hz : slacksOfRow p l cl ps = [] := by unfold slacksOfRow; rw [if_neg (by simp [hn])]
    refine Run.seq ?_
    refine Run.quiet (by intro h; cases h) ?_
    refine QOps.st rfl rfl (Yv.assign rfl).yl ?_
    refine QOps.st rfl rfl (Yv.assign rfl).yl ?_
    refine QOps.nil ?_
    refine Run.ret ?_
    refine retQ.of (.inr rfl) rfl (.tmp rfl (.tmp rfl .nil)) (fun w' hw' => ?_)
    rw [hz, hn]; exact ⟨_, _, rfl, hw'.bel.below, ⟨by first | rfl | simp, .inl ⟨rfl, rfl⟩⟩, by simp⟩
  · try replace hc1 := of_decide_eq_false hc1
    have hy : isSplit p l cl ps = true := by simpa using hc1
    have hz : slacksOfRow p l cl ps = slRow (slacks p l cl ps) := by unfold slacksOfRow; rw [if_pos hy]
    have hyy := hy
    unfold isSplit at hyy
    simp only [Bool.and_eq_true] at hyy
    obtain ⟨⟨hg0, hg1⟩, hg2, hg3⟩ := hyy
    have hcl := inB_iff.1 hg1
    have hyz : isSplit p l cl ps = ((slacks p l cl ps).isSome && decide (slAt (slacks p l cl ps) = (l.length : Int))) := by rw [hy, hg2, hg3]; rfl
    refine Run.skip ?_
    refine Run.seq ?_
    refine Run.ops ?_
    refine SOps.st rfl rfl (Yv.loadBs (i := 0) lay27 rfl rfl rfl rfl).yl ?_
    refine SOps.st rfl rfl (Yv.move rfl).yl ?_
    refine SOps.st rfl rfl (Yv.move rfl).yl ?_
    refine SOps.one rfl (One.callRow rfl callable64 (.cons rfl (.cons rfl (.cons rfl (.nil)))) (fun w' hw' => slacksOf_spec ((Rd.arg hs) w' hw') ((Rd.arg hs3) w' hw') (by assumption) (by assumption) (by omega)) (fun A1 c1 => ?_))
    refine SOps.st rfl rfl (Yv.extract rfl rfl).yl ?_
    refine SOps.st rfl rfl (Yv.extract rfl rfl).yl ?_
    refine SOps.st rfl rfl (Yv.assign rfl).yl ?_
    refine SOps.st rfl rfl (Yv.assign rfl).yl ?_
    refine SOps.nil ?_
    refine Run.ret ?_
    refine retQ.of (.inr rfl) rfl (.tmp rfl (.tmp rfl .nil)) (fun w' hw' => ?_)
    rw [hz, hyz]; exact ⟨_, _, rfl, hw'.bel.below, hw'.ent _ (List.mem_of_getElem? (i := 0) rfl), fun g hg => (hw'.own _ (List.mem_of_getElem? (i := 0) rfl) g hg).elim id (by simp)⟩

theorem sSlacksOf_spec {w : World} {A A3 : Option Addr} {c c3 : Nat} {p cl : Int} {l ps : List Int} (hs : Sl w 1 A l.length c (l.flatMap intC)) (hs3 : Sl w 1 A3 ps.length c3 (ps.flatMap intC)) (hps : ps.length ≤ 1048576) :
    Calls Try.prog 32 #[.agg #[.int .i64 p, .slice A l.length c], .int .i64 cl, .slice A3 ps.length c3] w (RetRow w 3 1 (slacksOfRow p l cl ps).length ((slacksOfRow p l cl ps).flatMap intC) (fun v => .tuple #[v, .bool (isSplit p l cl ps)])) := by
  refine calls_of_run (vs := [_, _, _]) (L := [(0, _), (1, _), (2, _)]) (n := 26) (F := []) (H := []) Try.func32 rfl rfl rfl rfl (HOk.start _) ?_
  refine Run.seq ?_
  refine Run.ops ?_
  refine SOps.one rfl (One.box (cs := [_, _]) rfl rfl rfl (fun b1 => ?_))
  refine SOps.st rfl rfl (Yv.assign rfl).yl ?_
  refine SOps.st rfl rfl (Yv.assign rfl).yl ?_
  refine SOps.nil ?_
  refine Run.seq ?_
  refine Run.seq ?_
  refine Run.quiet (by intro h; cases h) ?_
  refine QOps.st rfl rfl (Yv.loadBs (i := 0) lay27 rfl rfl rfl rfl).yl ?_
  refine QOps.st rfl rfl (Yv.move rfl).yl ?_
  refine QOps.st rfl rfl (Yv.move rfl).yl ?_
  refine QOps.st rfl rfl (Yl.call callable65 (.cons rfl (.cons rfl (.cons rfl (.nil)))) (fun w' hw' => l19Split_spec ((Rd.arg hs) w' hw') ((Rd.arg hs3) w' hw') (by omega))) ?_
  refine QOps.st rfl rfl (Yv.not rfl).yl ?_
  refine QOps.nil ?_
  refine Run.cond rfl (fun hc1 => ?_) (fun hc1 => ?_)
  · try replace hc1 := of_decide_eq_true hc1
    have hn : isSplit p l cl ps = false := by simpa using hc1
    have hz : slacksOfRow p l cl ps = [] := by unfold slacksOfRow; rw [if_neg (by simp [hn])]
    refine Run.seq ?_
    refine Run.ops ?_
    refine SOps.one rfl (One.buildSliceG (pv := []) (cs := []) (fun _ => []) rfl el22 .nil rfl rfl (by kernel_rfl) rfl rfl (fun b2 => ?_))
    refine SOps.st rfl rfl (Yv.assign rfl).yl ?_
    refine SOps.st rfl rfl (Yv.assign rfl).yl ?_
    refine SOps.nil ?_
    refine Run.ret ?_
    refine retQ.of (.inr rfl) rfl (.tmp rfl (.tmp rfl .nil)) (fun w' hw' => ?_)
    rw [hz, hn]; exact ⟨_, _, rfl, hw'.bel.below, hw'.ent _ (List.mem_of_getElem? (i := 0) rfl), fun g hg => (hw'.own _ (List.mem_of_getElem? (i := 0) rfl) g hg).elim id (by simp)⟩
  · try replace hc1 := of_decide_eq_false hc1
    have hy : isSplit p l cl ps = true := by simpa using hc1
    have hz : slacksOfRow p l cl ps = slRow (slacks p l cl ps) := by unfold slacksOfRow; rw [if_pos hy]
    have hyy := hy
    unfold isSplit at hyy
    simp only [Bool.and_eq_true] at hyy
    obtain ⟨⟨hg0, hg1⟩, hg2, hg3⟩ := hyy
    have hcl := inB_iff.1 hg1
    have hyz : isSplit p l cl ps = ((slacks p l cl ps).isSome && decide (slAt (slacks p l cl ps) = (l.length : Int))) := by rw [hy, hg2, hg3]; rfl
    refine Run.skip ?_
    refine Run.seq ?_
    refine Run.ops ?_
    refine SOps.st rfl rfl (Yv.loadBs (i := 0) lay27 rfl rfl rfl rfl).yl ?_
    refine SOps.st rfl rfl (Yv.move rfl).yl ?_
    refine SOps.st rfl rfl (Yv.move rfl).yl ?_
    refine SOps.one rfl (One.callRow rfl callable72 (.cons rfl (.cons rfl (.cons rfl (.nil)))) (fun w' hw' => l19Slacks_spec ((Rd.arg hs) w' hw') ((Rd.arg hs3) w' hw') (by assumption) (by assumption) (by omega)) (fun A1 c1 => ?_))
    refine SOps.st rfl rfl (Yv.move rfl).yl ?_
    refine SOps.st rfl rfl (Yv.extract rfl rfl).yl ?_
    refine SOps.st rfl rfl (Yv.extract rfl rfl).yl ?_
    refine SOps.st rfl rfl (Yv.extract rfl rfl).yl ?_
    refine SOps.st rfl rfl (Yv.assign rfl).yl ?_
    refine SOps.st rfl rfl (Yv.assign rfl).yl ?_
    refine SOps.st rfl rfl (Yv.assign rfl).yl ?_
    refine SOps.nil ?_
    refine Run.seq ?_
    refine Run.quiet (by intro h; cases h) ?_
    refine QOps.st rfl rfl (Yv.move rfl).yl ?_
    refine QOps.st rfl rfl (Yv.assign rfl).yl ?_
    refine QOps.st rfl rfl (Yv.assign rfl).yl ?_
    refine QOps.nil ?_
    refine Run.ret ?_
    refine retQ.of (.inr rfl) rfl (.tmp rfl (.tmp rfl .nil)) (fun w' hw' => ?_)
    rw [hz, hy]; exact ⟨_, _, rfl, hw'.bel.below, hw'.ent _ (List.mem_of_getElem? (i := 0) rfl), fun g hg => (hw'.own _ (List.mem_of_getElem? (i := 0) rfl) g hg).elim id (by simp)⟩

theorem slacksGo_len {p cl : Int} {l ps : List Int} : ∀ {i : Nat}, (slRow (slacksGo p l cl ps i)).length ≤ i
  | 0 => by simp [slacksGo, slRow]
  | i + 1 => by
    have ih := slacksGo_len (p := p) (l := l) (cl := cl) (ps := ps) (i := i)
    rw [slacksGo]
    split
    · simp [slRow]
    · rename_i o e h
      rw [h] at ih
      simp only [slRow] at ih
      split
      · split
        · simp [slRow]
        · simp [slRow]; omega
      · simp [slRow]
theorem slacksOfRow_len {p cl : Int} {l ps : List Int} : (slacksOfRow p l cl ps).length ≤ ps.length := by
  unfold slacksOfRow
  split
  · exact slacksGo_len
  · simp
theorem FnExactIsSplit_spec {w : World} {A A3 : Option Addr} {c c3 : Nat} {p cl : Int} {l ps : List Int} (hs : Sl w 1 A l.length c (l.flatMap intC)) (hb : 8 * l.length ≤ 281474976710656) (hs3 : Sl w 1 A3 ps.length c3 (ps.flatMap intC)) (hb3 : 8 * ps.length ≤ 281474976710656) :
    Calls Try.prog 9 #[.agg #[.int .i64 p, .slice A l.length c], .int .i64 cl, .slice A3 ps.length c3] w (RetB w (.bool true)) := by
  refine calls_of_run (vs := [_, _, _]) (L := [(0, _), (1, _), (2, _)]) (n := 47) (F := []) (H := []) Try.func9 rfl rfl rfl rfl (HOk.start _) ?_
  refine Run.seq ?_
  refine Run.ops ?_
  refine SOps.one rfl (One.box (cs := [_, _]) rfl rfl rfl (fun b1 => ?_))
  refine SOps.st rfl rfl (Yv.assign rfl).yl ?_
  refine SOps.nil ?_
  refine Run.seq ?_
  refine Run.seq ?_
  refine Run.quiet (by intro h; cases h) ?_
  refine QOps.st rfl rfl (Yv.move rfl).yl ?_
  refine QOps.st rfl rfl (Yv.lenS el22s rfl).yl ?_
  refine QOps.st rfl rfl (Yv.gtr rfl rfl).yl ?_
  refine QOps.nil ?_
  refine Run.cond rfl (fun hc1 => ?_) (fun hc1 => ?_)
  · try replace hc1 := of_decide_eq_true hc1
    refine Run.seq ?_
    refine Run.quiet (by intro h; cases h) ?_
    refine QOps.st rfl rfl (Yv.assign rfl).yl ?_
    refine QOps.nil ?_
    refine Run.ret ?_
    refine retQ.of (.inr rfl) rfl (.tmp rfl .nil) (fun w' hw' => ?_)
    refine ⟨?_, hw'.bel.below⟩
    exact rfl
  · try replace hc1 := of_decide_eq_false hc1
    have hps : ps.length ≤ 1048576 := by omega
    refine Run.skip ?_
    refine Run.seq ?_
    refine Run.quiet (by intro h; cases h) ?_
    refine QOps.st rfl rfl (Yv.assign rfl).yl ?_
    refine QOps.nil ?_
    refine Run.seq ?_
    refine Run.quiet (by intro h; cases h) ?_
    refine QOps.st rfl rfl (Yv.loadBs (i := 0) lay24 rfl rfl rfl rfl).yl ?_
    refine QOps.st rfl rfl (Yv.move rfl).yl ?_
    refine QOps.st rfl rfl (Yl.call callable15 (.cons rfl (.cons rfl (.nil))) (fun w' hw' => szConvoy_spec (by omega) (by omega) (by omega))) ?_
    refine QOps.st rfl rfl (Yv.assign rfl).yl ?_
    refine QOps.nil ?_
    refine Run.seq ?_
    refine Run.seq ?_
    refine Run.quiet (by intro h; cases h) ?_
    refine QOps.st rfl rfl (Yv.move rfl).yl ?_
    refine QOps.st rfl rfl (Yv.lss rfl rfl).yl ?_
    refine QOps.nil ?_
    refine Run.cond rfl (fun hc2 => ?_) (fun hc2 => ?_)
    · try replace hc2 := of_decide_eq_true hc2
      refine Run.seq ?_
      refine Run.quiet (by intro h; cases h) ?_
      refine QOps.st rfl rfl (Yv.assign rfl).yl ?_
      refine QOps.nil ?_
      refine Run.ret ?_
      refine retQ.of (.inr rfl) rfl (.tmp rfl .nil) (fun w' hw' => ?_)
      refine ⟨?_, hw'.bel.below⟩
      exact rfl
    · try replace hc2 := of_decide_eq_false hc2
      have hn1 : l.length ≤ 1048576 := by split at hc2 <;> omega
      refine Run.skip ?_
      refine Run.seq ?_
      refine Run.ops ?_
      refine SOps.st rfl rfl (Yv.loadBs (i := 0) lay24 rfl rfl rfl rfl).yl ?_
      refine SOps.one rfl (One.callRow rfl callable17 (.cons rfl (.nil)) (fun w' hw' => toConvoy_spec ((Rd.arg hs) w' hw') (by omega)) (fun A1 c1 => ?_))
      refine SOps.st rfl rfl (Yv.move rfl).yl ?_
      refine SOps.st rfl rfl (Yv.move rfl).yl ?_
      refine SOps.one rfl (One.callRow rfl callable47 (.cons rfl (.nil)) (fun w' hw' => toIntS_spec ((Rd.arg hs3) w' hw') (by omega)) (fun A2 c2 => ?_))
      refine SOps.st rfl rfl (Yl.call callable25 (.cons rfl (.cons rfl (.cons rfl (.nil)))) (fun w' hw' => sIsSplit_spec ((Rd.row (i := 1) rfl) w' hw') ((Rd.row (i := 0) rfl) w' hw') (by omega))) ?_
      refine SOps.st rfl rfl (Yv.assign rfl).yl ?_
      refine SOps.nil ?_
      refine Run.seq ?_
      refine Run.ops ?_
      refine SOps.st rfl rfl (Yv.loadBs (i := 2) lay24 rfl rfl rfl rfl).yl ?_
      refine SOps.one rfl (One.callRow rfl callable17 (.cons rfl (.nil)) (fun w' hw' => toConvoy_spec ((Rd.arg hs) w' hw') (by omega)) (fun A3 c3 => ?_))
      refine SOps.one rfl (One.alloc rfl zero27 (fun b2 => ?_))
      refine SOps.one rfl (One.store (i := 0) (off := 0) (vs := [_, _]) (cs' := [_, _]) (H' := [_, _, _, _, _]) lay27 rfl rfl rfl rfl rfl rfl rfl rfl rfl rfl ?_)
      refine SOps.nil ?_
      refine Run.seq ?_
      refine Run.ops ?_
      refine SOps.st rfl rfl (Yv.move rfl).yl ?_
      refine SOps.one rfl (One.callRow rfl callable47 (.cons rfl (.nil)) (fun w' hw' => toIntS_spec ((Rd.arg hs3) w' hw') (by omega)) (fun A4 c4 => ?_))
      refine SOps.st rfl rfl (Yv.assign rfl).yl ?_
      refine SOps.nil ?_
      refine Run.seq ?_
      refine Run.quiet (by intro h; cases h) ?_
      refine QOps.st rfl rfl (Yv.loadBs (i := 1) lay27 rfl rfl rfl rfl).yl ?_
      refine QOps.st rfl rfl (Yv.move rfl).yl ?_
      refine QOps.st rfl rfl (Yv.move rfl).yl ?_
      refine QOps.st rfl rfl (Yl.call callable24 (.cons rfl (.cons rfl (.cons rfl (.nil)))) (fun w' hw' => IsSplit_spec ((Rd.row (i := 2) rfl) w' hw') ((Rd.row (i := 0) rfl) w' hw') (by omega))) ?_
      refine QOps.st rfl rfl (Yv.assign rfl).yl ?_
      refine QOps.nil ?_
      refine Run.seq ?_
      refine Run.seq ?_
      refine Run.quiet (by intro h; cases h) ?_
      refine QOps.st rfl rfl (Yv.move rfl).yl ?_
      refine QOps.st rfl rfl (Yv.move rfl).yl ?_
      refine QOps.st rfl rfl (Yv.neB bool4 rfl rfl).yl ?_
      refine QOps.nil ?_
      refine Run.cond rfl (fun hc3 => ?_) (fun hc3 => ?_)
      · exfalso
        first | (simp at hc3; done) | (simp at hc3; omega) | omega
      · try replace hc3 := of_decide_eq_false hc3
        refine Run.skip ?_
        refine Run.seq ?_
        refine Run.seq ?_
        refine Run.draws (fun H => H) (m := 5) (listed := #[false, false, false, false, false]) (by kernel_rfl) rfl rfl ?_
        refine DOps.take (listed' := #[true, false, false, false, false]) 0 rfl (by kernel_rfl) rfl (List.Sublist.refl _) rfl rfl (Yv.loadBs (i := 1) lay27 rfl rfl rfl rfl) ?_
        refine DOps.take (listed' := #[true, true, false, false, false]) 1 rfl (by kernel_rfl) rfl (List.Sublist.refl _) rfl rfl (Yv.loadBs (i := 5) lay24 rfl rfl rfl rfl) ?_
        refine DOps.only (listed' := #[true, true, true, false, false]) 2 rfl (by kernel_rfl) rfl rfl ?_
        refine One.callRow rfl callable17 (.cons rfl (.nil)) (fun w' hw' => toConvoy_spec ((Rd.arg hs) w' hw') (by omega)) (fun A5 c5 => ?_)
        refine ⟨(List.Sublist.cons _ (List.Sublist.refl _)), ?_⟩
        refine DOps.only (listed' := #[true, true, true, true, false]) 3 rfl (by kernel_rfl) rfl rfl ?_
        refine One.st rfl (Yl.call callable19 (.cons rfl (.cons rfl (.nil))) (fun w' hw' => eqConvoy_spec ((Rd.row (i := 3) rfl) w' hw') ((Rd.row (i := 0) rfl) w' hw'))) ?_
        refine ⟨(List.Sublist.cons _ (List.Sublist.refl _)), ?_⟩
        refine DOps.take (listed' := #[true, true, true, true, true]) 4 rfl (by kernel_rfl) rfl (List.Sublist.cons _ (List.Sublist.refl _)) rfl rfl (Yv.not rfl) ?_
        refine DOps.done (by kernel_rfl) ?_
        refine Run.cond rfl (fun hc4 => ?_) (fun hc4 => ?_)
        · exfalso
          first | (simp at hc4; done) | (simp at hc4; omega) | omega
        · try replace hc4 := of_decide_eq_false hc4
          refine Run.skip ?_
          refine Run.seq ?_
          refine Run.seq ?_
          refine Run.ops ?_
          refine SOps.st rfl rfl (Yv.move rfl).yl ?_
          refine SOps.st rfl rfl (Yv.move rfl).yl ?_
          refine SOps.one rfl (One.callRow rfl callable47 (.cons rfl (.nil)) (fun w' hw' => toIntS_spec ((Rd.arg hs3) w' hw') (by omega)) (fun A6 c6 => ?_))
          refine SOps.st rfl rfl (Yl.call callable42 (.cons rfl (.cons rfl (.nil))) (fun w' hw' => eqIntS_spec ((Rd.row (i := 2) rfl) w' hw') ((Rd.row (i := 0) rfl) w' hw'))) ?_
          refine SOps.st rfl rfl (Yv.not rfl).yl ?_
          refine SOps.nil ?_
          refine Run.cond rfl (fun hc5 => ?_) (fun hc5 => ?_)
          · exfalso
            first | (simp at hc5; done) | (simp at hc5; omega) | omega
          · try replace hc5 := of_decide_eq_false hc5
            refine Run.skip ?_
            refine Run.seq ?_
            refine Run.quiet (by intro h; cases h) ?_
            refine QOps.st rfl rfl (Yv.assign rfl).yl ?_
            refine QOps.nil ?_
            refine Run.ret ?_
            refine retQ.of (.inr rfl) rfl (.tmp rfl .nil) (fun w' hw' => ?_)
            refine ⟨?_, hw'.bel.below⟩
            exact rfl

theorem FnExactRunsOf_spec {w : World} {A A3 : Option Addr} {c c3 : Nat} {p cl : Int} {l ps : List Int} (hs : Sl w 1 A l.length c (l.flatMap intC)) (hb : 8 * l.length ≤ 281474976710656) (hs3 : Sl w 1 A3 ps.length c3 (ps.flatMap intC)) (hb3 : 8 * ps.length ≤ 281474976710656) :
    Calls Try.prog 11 #[.agg #[.int .i64 p, .slice A l.length c], .int .i64 cl, .slice A3 ps.length c3] w (RetB w (.bool true)) := by
  refine calls_of_run (vs := [_, _, _]) (L := [(0, _), (1, _), (2, _)]) (n := 60) (F := []) (H := []) Try.func11 rfl rfl rfl rfl (HOk.start _) ?_
  refine Run.seq ?_
  refine Run.ops ?_
  refine SOps.one rfl (One.box (cs := [_, _]) rfl rfl rfl (fun b1 => ?_))
  refine SOps.st rfl rfl (Yv.assign rfl).yl ?_
  refine SOps.nil ?_
  refine Run.seq ?_
  refine Run.seq ?_
  refine Run.quiet (by intro h; cases h) ?_
  refine QOps.st rfl rfl (Yv.move rfl).yl ?_
  refine QOps.st rfl rfl (Yv.lenS el22s rfl).yl ?_
  refine QOps.st rfl rfl (Yv.gtr rfl rfl).yl ?_
  refine QOps.nil ?_
  refine Run.cond rfl (fun hc1 => ?_) (fun hc1 => ?_)
  · try replace hc1 := of_decide_eq_true hc1
    refine Run.seq ?_
    refine Run.quiet (by intro h; cases h) ?_
    refine QOps.st rfl rfl (Yv.assign rfl).yl ?_
    refine QOps.nil ?_
    refine Run.ret ?_
    refine retQ.of (.inr rfl) rfl (.tmp rfl .nil) (fun w' hw' => ?_)
    refine ⟨?_, hw'.bel.below⟩
    exact rfl
  · try replace hc1 := of_decide_eq_false hc1
    have hps : ps.length ≤ 1048576 := by omega
    refine Run.skip ?_
    refine Run.seq ?_
    refine Run.quiet (by intro h; cases h) ?_
    refine QOps.st rfl rfl (Yv.assign rfl).yl ?_
    refine QOps.nil ?_
    refine Run.seq ?_
    refine Run.quiet (by intro h; cases h) ?_
    refine QOps.st rfl rfl (Yv.loadBs (i := 0) lay24 rfl rfl rfl rfl).yl ?_
    refine QOps.st rfl rfl (Yv.move rfl).yl ?_
    refine QOps.st rfl rfl (Yl.call callable15 (.cons rfl (.cons rfl (.nil))) (fun w' hw' => szConvoy_spec (by omega) (by omega) (by omega))) ?_
    refine QOps.st rfl rfl (Yv.assign rfl).yl ?_
    refine QOps.nil ?_
    refine Run.seq ?_
    refine Run.seq ?_
    refine Run.quiet (by intro h; cases h) ?_
    refine QOps.st rfl rfl (Yv.move rfl).yl ?_
    refine QOps.st rfl rfl (Yv.lss rfl rfl).yl ?_
    refine QOps.nil ?_
    refine Run.cond rfl (fun hc2 => ?_) (fun hc2 => ?_)
    · try replace hc2 := of_decide_eq_true hc2
      refine Run.seq ?_
      refine Run.quiet (by intro h; cases h) ?_
      refine QOps.st rfl rfl (Yv.assign rfl).yl ?_
      refine QOps.nil ?_
      refine Run.ret ?_
      refine retQ.of (.inr rfl) rfl (.tmp rfl .nil) (fun w' hw' => ?_)
      refine ⟨?_, hw'.bel.below⟩
      exact rfl
    · try replace hc2 := of_decide_eq_false hc2
      have hn1 : l.length ≤ 1048576 := by split at hc2 <;> omega
      refine Run.skip ?_
      refine Run.seq ?_
      refine Run.ops ?_
      refine SOps.st rfl rfl (Yv.loadBs (i := 0) lay24 rfl rfl rfl rfl).yl ?_
      refine SOps.one rfl (One.callRow rfl callable17 (.cons rfl (.nil)) (fun w' hw' => toConvoy_spec ((Rd.arg hs) w' hw') (by omega)) (fun A1 c1 => ?_))
      refine SOps.st rfl rfl (Yv.move rfl).yl ?_
      refine SOps.st rfl rfl (Yv.move rfl).yl ?_
      refine SOps.one rfl (One.callRow rfl callable47 (.cons rfl (.nil)) (fun w' hw' => toIntS_spec ((Rd.arg hs3) w' hw') (by omega)) (fun A2 c2 => ?_))
      refine SOps.st rfl rfl (Yl.call callable34 (.cons rfl (.cons rfl (.cons rfl (.nil)))) (fun w' hw' => sRunsOf_spec ((Rd.row (i := 1) rfl) w' hw') ((Rd.row (i := 0) rfl) w' hw') (by omega))) ?_
      refine SOps.st rfl rfl (Yv.move rfl).yl ?_
      refine SOps.st rfl rfl (Yv.extract rfl rfl).yl ?_
      refine SOps.st rfl rfl (Yv.extract rfl rfl).yl ?_
      refine SOps.st rfl rfl (Yv.assign rfl).yl ?_
      refine SOps.st rfl rfl (Yv.assign rfl).yl ?_
      refine SOps.nil ?_
      refine Run.seq ?_
      refine Run.ops ?_
      refine SOps.st rfl rfl (Yv.loadBs (i := 2) lay24 rfl rfl rfl rfl).yl ?_
      refine SOps.one rfl (One.callRow rfl callable17 (.cons rfl (.nil)) (fun w' hw' => toConvoy_spec ((Rd.arg hs) w' hw') (by omega)) (fun A3 c3 => ?_))
      refine SOps.one rfl (One.alloc rfl zero27 (fun b2 => ?_))
      refine SOps.one rfl (One.store (i := 0) (off := 0) (vs := [_, _]) (cs' := [_, _]) (H' := [_, _, _, _, _]) lay27 rfl rfl rfl rfl rfl rfl rfl rfl rfl rfl ?_)
      refine SOps.nil ?_
      refine Run.seq ?_
      refine Run.ops ?_
      refine SOps.st rfl rfl (Yv.move rfl).yl ?_
      refine SOps.one rfl (One.callRow rfl callable47 (.cons rfl (.nil)) (fun w' hw' => toIntS_spec ((Rd.arg hs3) w' hw') (by omega)) (fun A4 c4 => ?_))
      refine SOps.st rfl rfl (Yv.assign rfl).yl ?_
      refine SOps.nil ?_
      refine Run.seq ?_
      refine Run.quiet (by intro h; cases h) ?_
      refine QOps.st rfl rfl (Yv.loadBs (i := 1) lay27 rfl rfl rfl rfl).yl ?_
      refine QOps.st rfl rfl (Yv.move rfl).yl ?_
      refine QOps.st rfl rfl (Yv.move rfl).yl ?_
      refine QOps.st rfl rfl (Yl.call callable33 (.cons rfl (.cons rfl (.cons rfl (.nil)))) (fun w' hw' => RunsOf_spec ((Rd.row (i := 2) rfl) w' hw') ((Rd.row (i := 0) rfl) w' hw') (by omega))) ?_
      refine QOps.st rfl rfl (Yv.move rfl).yl ?_
      refine QOps.st rfl rfl (Yv.extract rfl rfl).yl ?_
      refine QOps.st rfl rfl (Yv.extract rfl rfl).yl ?_
      refine QOps.st rfl rfl (Yv.assign rfl).yl ?_
      refine QOps.st rfl rfl (Yv.assign rfl).yl ?_
      refine QOps.nil ?_
      refine Run.seq ?_
      refine Run.seq ?_
      refine Run.quiet (by intro h; cases h) ?_
      refine QOps.st rfl rfl (Yv.move rfl).yl ?_
      refine QOps.st rfl rfl (Yv.move rfl).yl ?_
      refine QOps.st rfl rfl (Yv.neI rfl rfl).yl ?_
      refine QOps.st rfl rfl (Yv.move rfl).yl ?_
      refine' QOps.or [_, _, _] _ (.tmp 48) rfl rfl rfl rfl rfl rfl (fun hg1 => ?_) ?_
      rotate_left
      · try replace hg1 := of_decide_eq_false hg1
        refine QOps.st rfl rfl (Yv.move rfl).yl ?_
        refine QOps.st rfl rfl (Yv.move rfl).yl ?_
        refine QOps.st rfl rfl (Yv.neB bool4 rfl rfl).yl ?_
        exact QOps.nil rfl
      refine QOps.nil ?_
      refine Run.cond rfl (fun hc3 => ?_) (fun hc3 => ?_)
      · exfalso
        first | (simp at hc3; done) | (simp at hc3; omega) | omega
      · try replace hc3 := of_decide_eq_false hc3
        refine Run.skip ?_
        refine Run.seq ?_
        refine Run.seq ?_
        refine Run.draws (fun H => H) (m := 5) (listed := #[false, false, false, false, false]) (by kernel_rfl) rfl rfl ?_
        refine DOps.take (listed' := #[true, false, false, false, false]) 0 rfl (by kernel_rfl) rfl (List.Sublist.refl _) rfl rfl (Yv.loadBs (i := 1) lay27 rfl rfl rfl rfl) ?_
        refine DOps.take (listed' := #[true, true, false, false, false]) 1 rfl (by kernel_rfl) rfl (List.Sublist.refl _) rfl rfl (Yv.loadBs (i := 5) lay24 rfl rfl rfl rfl) ?_
        refine DOps.only (listed' := #[true, true, true, false, false]) 2 rfl (by kernel_rfl) rfl rfl ?_
        refine One.callRow rfl callable17 (.cons rfl (.nil)) (fun w' hw' => toConvoy_spec ((Rd.arg hs) w' hw') (by omega)) (fun A5 c5 => ?_)
        refine ⟨(List.Sublist.cons _ (List.Sublist.refl _)), ?_⟩
        refine DOps.only (listed' := #[true, true, true, true, false]) 3 rfl (by kernel_rfl) rfl rfl ?_
        refine One.st rfl (Yl.call callable19 (.cons rfl (.cons rfl (.nil))) (fun w' hw' => eqConvoy_spec ((Rd.row (i := 3) rfl) w' hw') ((Rd.row (i := 0) rfl) w' hw'))) ?_
        refine ⟨(List.Sublist.cons _ (List.Sublist.refl _)), ?_⟩
        refine DOps.take (listed' := #[true, true, true, true, true]) 4 rfl (by kernel_rfl) rfl (List.Sublist.cons _ (List.Sublist.refl _)) rfl rfl (Yv.not rfl) ?_
        refine DOps.done (by kernel_rfl) ?_
        refine Run.cond rfl (fun hc4 => ?_) (fun hc4 => ?_)
        · exfalso
          first | (simp at hc4; done) | (simp at hc4; omega) | omega
        · try replace hc4 := of_decide_eq_false hc4
          refine Run.skip ?_
          refine Run.seq ?_
          refine Run.seq ?_
          refine Run.ops ?_
          refine SOps.st rfl rfl (Yv.move rfl).yl ?_
          refine SOps.st rfl rfl (Yv.move rfl).yl ?_
          refine SOps.one rfl (One.callRow rfl callable47 (.cons rfl (.nil)) (fun w' hw' => toIntS_spec ((Rd.arg hs3) w' hw') (by omega)) (fun A6 c6 => ?_))
          refine SOps.st rfl rfl (Yl.call callable42 (.cons rfl (.cons rfl (.nil))) (fun w' hw' => eqIntS_spec ((Rd.row (i := 2) rfl) w' hw') ((Rd.row (i := 0) rfl) w' hw'))) ?_
          refine SOps.st rfl rfl (Yv.not rfl).yl ?_
          refine SOps.nil ?_
          refine Run.cond rfl (fun hc5 => ?_) (fun hc5 => ?_)
          · exfalso
            first | (simp at hc5; done) | (simp at hc5; omega) | omega
          · try replace hc5 := of_decide_eq_false hc5
            refine Run.skip ?_
            refine Run.seq ?_
            refine Run.quiet (by intro h; cases h) ?_
            refine QOps.st rfl rfl (Yv.assign rfl).yl ?_
            refine QOps.nil ?_
            refine Run.ret ?_
            refine retQ.of (.inr rfl) rfl (.tmp rfl .nil) (fun w' hw' => ?_)
            refine ⟨?_, hw'.bel.below⟩
            exact rfl

theorem FnExactSlacksOf_spec {w : World} {A A3 : Option Addr} {c c3 : Nat} {p cl : Int} {l ps : List Int} (hs : Sl w 1 A l.length c (l.flatMap intC)) (hb : 8 * l.length ≤ 281474976710656) (hs3 : Sl w 1 A3 ps.length c3 (ps.flatMap intC)) (hb3 : 8 * ps.length ≤ 281474976710656) :
    Calls Try.prog 12 #[.agg #[.int .i64 p, .slice A l.length c], .int .i64 cl, .slice A3 ps.length c3] w (RetB w (.bool true)) := by
  have hgl := slacksOfRow_len (p := p) (l := l) (cl := cl) (ps := ps)
  refine calls_of_run (vs := [_, _, _]) (L := [(0, _), (1, _), (2, _)]) (n := 122) (F := []) (H := []) Try.func12 rfl rfl rfl rfl (HOk.start _) ?_
  refine Run.seq ?_
  refine Run.ops ?_
  refine SOps.one rfl (One.box (cs := [_, _]) rfl rfl rfl (fun b1 => ?_))
  refine SOps.st rfl rfl (Yv.assign rfl).yl ?_
  refine SOps.nil ?_
  refine Run.seq ?_
  refine Run.seq ?_
  refine Run.quiet (by intro h; cases h) ?_
  refine QOps.st rfl rfl (Yv.move rfl).yl ?_
  refine QOps.st rfl rfl (Yv.lenS el22s rfl).yl ?_
  refine QOps.st rfl rfl (Yv.gtr rfl rfl).yl ?_
  refine QOps.nil ?_
  refine Run.cond rfl (fun hc1 => ?_) (fun hc1 => ?_)
  · try replace hc1 := of_decide_eq_true hc1
    refine Run.seq ?_
    refine Run.quiet (by intro h; cases h) ?_
    refine QOps.st rfl rfl (Yv.assign rfl).yl ?_
    refine QOps.nil ?_
    refine Run.ret ?_
    refine retQ.of (.inr rfl) rfl (.tmp rfl .nil) (fun w' hw' => ?_)
    refine ⟨?_, hw'.bel.below⟩
    exact rfl
  · try replace hc1 := of_decide_eq_false hc1
    have hps : ps.length ≤ 1048576 := by omega
    refine Run.skip ?_
    refine Run.seq ?_
    refine Run.quiet (by intro h; cases h) ?_
    refine QOps.st rfl rfl (Yv.assign rfl).yl ?_
    refine QOps.nil ?_
    refine Run.seq ?_
    refine Run.quiet (by intro h; cases h) ?_
    refine QOps.st rfl rfl (Yv.loadBs (i := 0) lay24 rfl rfl rfl rfl).yl ?_
    refine QOps.st rfl rfl (Yv.move rfl).yl ?_
    refine QOps.st rfl rfl (Yl.call callable15 (.cons rfl (.cons rfl (.nil))) (fun w' hw' => szConvoy_spec (by omega) (by omega) (by omega))) ?_
    refine QOps.st rfl rfl (Yv.assign rfl).yl ?_
    refine QOps.nil ?_
    refine Run.seq ?_
    refine Run.seq ?_
    refine Run.quiet (by intro h; cases h) ?_
    refine QOps.st rfl rfl (Yv.move rfl).yl ?_
    refine QOps.st rfl rfl (Yv.lss rfl rfl).yl ?_
    refine QOps.nil ?_
    refine Run.cond rfl (fun hc2 => ?_) (fun hc2 => ?_)
    · try replace hc2 := of_decide_eq_true hc2
      refine Run.seq ?_
      refine Run.quiet (by intro h; cases h) ?_
      refine QOps.st rfl rfl (Yv.assign rfl).yl ?_
      refine QOps.nil ?_
      refine Run.ret ?_
      refine retQ.of (.inr rfl) rfl (.tmp rfl .nil) (fun w' hw' => ?_)
      refine ⟨?_, hw'.bel.below⟩
      exact rfl
    · try replace hc2 := of_decide_eq_false hc2
      have hn1 : l.length ≤ 1048576 := by split at hc2 <;> omega
      refine Run.skip ?_
      refine Run.seq ?_
      refine Run.ops ?_
      refine SOps.st rfl rfl (Yv.loadBs (i := 0) lay24 rfl rfl rfl rfl).yl ?_
      refine SOps.one rfl (One.callRow rfl callable17 (.cons rfl (.nil)) (fun w' hw' => toConvoy_spec ((Rd.arg hs) w' hw') (by omega)) (fun A1 c1 => ?_))
      refine SOps.st rfl rfl (Yv.move rfl).yl ?_
      refine SOps.st rfl rfl (Yv.move rfl).yl ?_
      refine SOps.one rfl (One.callRow rfl callable47 (.cons rfl (.nil)) (fun w' hw' => toIntS_spec ((Rd.arg hs3) w' hw') (by omega)) (fun A2 c2 => ?_))
      refine SOps.one rfl (One.callRow rfl callable32 (.cons rfl (.cons rfl (.cons rfl (.nil)))) (fun w' hw' => sSlacksOf_spec ((Rd.row (i := 1) rfl) w' hw') ((Rd.row (i := 0) rfl) w' hw') (by omega)) (fun A3 c3 => ?_))
      refine SOps.st rfl rfl (Yv.move rfl).yl ?_
      refine SOps.st rfl rfl (Yv.extract rfl rfl).yl ?_
      refine SOps.st rfl rfl (Yv.extract rfl rfl).yl ?_
      refine SOps.st rfl rfl (Yv.assign rfl).yl ?_
      refine SOps.st rfl rfl (Yv.assign rfl).yl ?_
      refine SOps.nil ?_
      refine Run.seq ?_
      refine Run.ops ?_
      refine SOps.st rfl rfl (Yv.loadBs (i := 3) lay24 rfl rfl rfl rfl).yl ?_
      refine SOps.one rfl (One.callRow rfl callable17 (.cons rfl (.nil)) (fun w' hw' => toConvoy_spec ((Rd.arg hs) w' hw') (by omega)) (fun A4 c4 => ?_))
      refine SOps.one rfl (One.alloc rfl zero27 (fun b2 => ?_))
      refine SOps.one rfl (One.store (i := 0) (off := 0) (vs := [_, _]) (cs' := [_, _]) (H' := [_, _, _, _, _, _]) lay27 rfl rfl rfl rfl rfl rfl rfl rfl rfl rfl ?_)
      refine SOps.nil ?_
      refine Run.seq ?_
      refine Run.ops ?_
      refine SOps.st rfl rfl (Yv.move rfl).yl ?_
      refine SOps.one rfl (One.callRow rfl callable47 (.cons rfl (.nil)) (fun w' hw' => toIntS_spec ((Rd.arg hs3) w' hw') (by omega)) (fun A5 c5 => ?_))
      refine SOps.st rfl rfl (Yv.assign rfl).yl ?_
      refine SOps.nil ?_
      refine Run.seq ?_
      refine Run.ops ?_
      refine SOps.st rfl rfl (Yv.loadBs (i := 1) lay27 rfl rfl rfl rfl).yl ?_
      refine SOps.st rfl rfl (Yv.move rfl).yl ?_
      refine SOps.st rfl rfl (Yv.move rfl).yl ?_
      refine SOps.one rfl (One.callRow rfl callable31 (.cons rfl (.cons rfl (.cons rfl (.nil)))) (fun w' hw' => SlacksOf_spec ((Rd.row (i := 2) rfl) w' hw') ((Rd.row (i := 0) rfl) w' hw') (by omega)) (fun A6 c6 => ?_))
      refine SOps.st rfl rfl (Yv.move rfl).yl ?_
      refine SOps.st rfl rfl (Yv.extract rfl rfl).yl ?_
      refine SOps.st rfl rfl (Yv.extract rfl rfl).yl ?_
      refine SOps.st rfl rfl (Yv.assign rfl).yl ?_
      refine SOps.st rfl rfl (Yv.assign rfl).yl ?_
      refine SOps.nil ?_
      refine Run.seq ?_
      refine Run.seq ?_
      refine Run.quiet (by intro h; cases h) ?_
      refine QOps.st rfl rfl (Yv.move rfl).yl ?_
      refine QOps.st rfl rfl (Yv.move rfl).yl ?_
      refine QOps.st rfl rfl (Yl.call callable42 (.cons rfl (.cons rfl (.nil))) (fun w' hw' => eqIntS_spec ((Rd.row (i := 0) rfl) w' hw') ((Rd.row (i := 4) rfl) w' hw'))) ?_
      refine QOps.st rfl rfl (Yv.not rfl).yl ?_
      refine QOps.st rfl rfl (Yv.move rfl).yl ?_
      refine' QOps.or [_, _, _] _ (.tmp 54) rfl rfl rfl rfl rfl rfl (fun hg1 => ?_) ?_
      rotate_left
      · try replace hg1 := of_decide_eq_false hg1
        refine QOps.st rfl rfl (Yv.move rfl).yl ?_
        refine QOps.st rfl rfl (Yv.move rfl).yl ?_
        refine QOps.st rfl rfl (Yv.neB bool4 rfl rfl).yl ?_
        exact QOps.nil rfl
      refine QOps.nil ?_
      refine Run.cond rfl (fun hc3 => ?_) (fun hc3 => ?_)
      · exfalso
        first | (simp at hc3; done) | (simp at hc3; omega) | omega
      · try replace hc3 := of_decide_eq_false hc3
        refine Run.skip ?_
        refine Run.seq ?_
        refine Run.seq ?_
        refine Run.draws (fun H => H) (m := 5) (listed := #[false, false, false, false, false]) (by kernel_rfl) rfl rfl ?_
        refine DOps.take (listed' := #[true, false, false, false, false]) 0 rfl (by kernel_rfl) rfl (List.Sublist.refl _) rfl rfl (Yv.loadBs (i := 2) lay27 rfl rfl rfl rfl) ?_
        refine DOps.take (listed' := #[true, true, false, false, false]) 1 rfl (by kernel_rfl) rfl (List.Sublist.refl _) rfl rfl (Yv.loadBs (i := 7) lay24 rfl rfl rfl rfl) ?_
        refine DOps.only (listed' := #[true, true, true, false, false]) 2 rfl (by kernel_rfl) rfl rfl ?_
        refine One.callRow rfl callable17 (.cons rfl (.nil)) (fun w' hw' => toConvoy_spec ((Rd.arg hs) w' hw') (by omega)) (fun A7 c7 => ?_)
        refine ⟨(List.Sublist.cons _ (List.Sublist.refl _)), ?_⟩
        refine DOps.only (listed' := #[true, true, true, true, false]) 3 rfl (by kernel_rfl) rfl rfl ?_
        refine One.st rfl (Yl.call callable19 (.cons rfl (.cons rfl (.nil))) (fun w' hw' => eqConvoy_spec ((Rd.row (i := 4) rfl) w' hw') ((Rd.row (i := 0) rfl) w' hw'))) ?_
        refine ⟨(List.Sublist.cons _ (List.Sublist.refl _)), ?_⟩
        refine DOps.take (listed' := #[true, true, true, true, true]) 4 rfl (by kernel_rfl) rfl (List.Sublist.cons _ (List.Sublist.refl _)) rfl rfl (Yv.not rfl) ?_
        refine DOps.done (by kernel_rfl) ?_
        refine Run.cond rfl (fun hc4 => ?_) (fun hc4 => ?_)
        · exfalso
          first | (simp at hc4; done) | (simp at hc4; omega) | omega
        · try replace hc4 := of_decide_eq_false hc4
          refine Run.skip ?_
          refine Run.seq ?_
          refine Run.seq ?_
          refine Run.ops ?_
          refine SOps.st rfl rfl (Yv.move rfl).yl ?_
          refine SOps.st rfl rfl (Yv.move rfl).yl ?_
          refine SOps.one rfl (One.callRow rfl callable47 (.cons rfl (.nil)) (fun w' hw' => toIntS_spec ((Rd.arg hs3) w' hw') (by omega)) (fun A8 c8 => ?_))
          refine SOps.st rfl rfl (Yl.call callable42 (.cons rfl (.cons rfl (.nil))) (fun w' hw' => eqIntS_spec ((Rd.row (i := 3) rfl) w' hw') ((Rd.row (i := 0) rfl) w' hw'))) ?_
          refine SOps.st rfl rfl (Yv.not rfl).yl ?_
          refine SOps.nil ?_
          refine Run.cond rfl (fun hc5 => ?_) (fun hc5 => ?_)
          · exfalso
            first | (simp at hc5; done) | (simp at hc5; omega) | omega
          · try replace hc5 := of_decide_eq_false hc5
            refine Run.skip ?_
            refine Run.seq ?_
            refine Run.quiet (by intro h; cases h) ?_
            refine QOps.st rfl rfl (Yv.assign rfl).yl ?_
            refine QOps.nil ?_
            refine Run.seq ?_
            refine Run.ops ?_
            refine SOps.st rfl rfl (Yv.loadBs (i := 4) lay27 rfl rfl rfl rfl).yl ?_
            refine SOps.st rfl rfl (Yv.move rfl).yl ?_
            refine SOps.one rfl (One.callMut (i := 5) (H' := [_, _, _, _, _, _, _, _, _, _]) rfl callable38 (.cons rfl (.cons rfl (.nil))) rfl (fun w' hw' => markConvoy_spec (hw'.ent _ (List.mem_of_getElem? (i := 5) rfl)) (by omega) (by omega) (by omega)) rfl ?_)
            refine SOps.st rfl rfl (Yv.assign rfl).yl ?_
            refine SOps.nil ?_
            refine Run.seq ?_
            refine Run.ops ?_
            refine SOps.st rfl rfl (Yv.move rfl).yl ?_
            refine SOps.st rfl rfl (Yv.move rfl).yl ?_
            refine SOps.one rfl (One.callMut (i := 3) (H' := [_, _, _, _, _, _, _, _, _, _]) rfl callable43 (.cons rfl (.cons rfl (.nil))) rfl (fun w' hw' => markIntS_spec (hw'.ent _ (List.mem_of_getElem? (i := 3) rfl)) (by omega) (by omega) (by omega)) rfl ?_)
            refine SOps.st rfl rfl (Yv.assign rfl).yl ?_
            refine SOps.nil ?_
            refine Run.seq ?_
            refine Run.seq ?_
            refine Run.quiet (by intro h; cases h) ?_
            refine QOps.st rfl rfl (Yv.move rfl).yl ?_
            refine QOps.st rfl rfl (Yv.lss rfl rfl).yl ?_
            refine QOps.st rfl rfl (Yv.move rfl).yl ?_
            refine' QOps.or [_, _, _, _] _ (.tmp 78) rfl rfl rfl rfl rfl rfl (fun hg2 => ?_) ?_
            rotate_left
            · try replace hg2 := of_decide_eq_false hg2
              refine QOps.st rfl rfl (Yv.move rfl).yl ?_
              refine QOps.st rfl rfl (Yv.move rfl).yl ?_
              refine QOps.st rfl rfl (Yl.call callable42 (.cons rfl (.cons rfl (.nil))) (fun w' hw' => eqIntS_spec ((Rd.row (i := 2) rfl) w' hw') ((Rd.row (i := 6) rfl) w' hw'))) ?_
              refine QOps.st rfl rfl (Yv.not rfl).yl ?_
              exact QOps.nil rfl
            refine QOps.st rfl rfl (Yv.move rfl).yl ?_
            refine' QOps.or [_, _, _] _ (.tmp 83) rfl rfl rfl rfl rfl rfl (fun hg3 => ?_) ?_
            rotate_left
            · try replace hg3 := of_decide_eq_false hg3
              refine QOps.st rfl rfl (Yv.move rfl).yl ?_
              refine QOps.st rfl rfl (Yv.move rfl).yl ?_
              refine QOps.st rfl rfl (Yv.neB bool4 rfl rfl).yl ?_
              exact QOps.nil rfl
            refine QOps.nil ?_
            refine Run.cond rfl (fun hc6 => ?_) (fun hc6 => ?_)
            · exfalso
              first | (simp at hc6; done) | (simp at hc6; omega) | omega
            · try replace hc6 := of_decide_eq_false hc6
              refine Run.skip ?_
              refine Run.seq ?_
              refine Run.quiet (by intro h; cases h) ?_
              refine QOps.st rfl rfl (Yv.assign rfl).yl ?_
              refine QOps.nil ?_
              refine Run.seq ?_
              refine Run.ops ?_
              refine SOps.st rfl rfl (Yv.move rfl).yl ?_
              refine SOps.st rfl rfl (Yv.move rfl).yl ?_
              refine SOps.one rfl (One.callMut (i := 2) (H' := [_, _, _, _, _, _, _, _, _, _]) rfl callable43 (.cons rfl (.cons rfl (.nil))) rfl (fun w' hw' => markIntS_spec (hw'.ent _ (List.mem_of_getElem? (i := 2) rfl)) (by omega) (by omega) (by omega)) rfl ?_)
              refine SOps.st rfl rfl (Yv.assign rfl).yl ?_
              refine SOps.nil ?_
              refine Run.seq ?_
              refine Run.quiet (by intro h; cases h) ?_
              refine QOps.st rfl rfl (Yv.assign rfl).yl ?_
              refine QOps.nil ?_
              refine Run.seq ?_
              refine Run.quiet (by intro h; cases h) ?_
              refine QOps.st rfl rfl (Yv.move rfl).yl ?_
              refine QOps.st rfl rfl (Yv.move rfl).yl ?_
              refine QOps.st rfl rfl (Yl.call callable44 (.cons rfl (.cons rfl (.nil))) (fun w' hw' => heldIntS_spec ((Rd.row (i := 2) rfl) w' hw') (by omega) (by omega) (by omega))) ?_
              refine QOps.st rfl rfl (Yv.assign rfl).yl ?_
              refine QOps.nil ?_
              refine Run.seq ?_
              refine Run.seq ?_
              refine Run.quiet (by intro h; cases h) ?_
              refine QOps.st rfl rfl (Yv.move rfl).yl ?_
              refine QOps.st rfl rfl (Yv.lss rfl rfl).yl ?_
              refine QOps.nil ?_
              refine Run.cond rfl (fun hc7 => ?_) (fun hc7 => ?_)
              · exfalso
                first | (simp at hc7; done) | (simp at hc7; omega) | omega
              · try replace hc7 := of_decide_eq_false hc7
                refine Run.skip ?_
                refine Run.seq ?_
                refine Run.seq ?_
                refine Run.quiet (by intro h; cases h) ?_
                refine QOps.st rfl rfl (Yv.move rfl).yl ?_
                refine QOps.st rfl rfl (Yv.move rfl).yl ?_
                refine QOps.st rfl rfl (Yv.neI rfl rfl).yl ?_
                refine QOps.nil ?_
                refine Run.cond rfl (fun hc8 => ?_) (fun hc8 => ?_)
                · exfalso
                  first | (simp at hc8; done) | (simp at hc8; omega) | omega
                · try replace hc8 := of_decide_eq_false hc8
                  refine Run.skip ?_
                  refine Run.seq ?_
                  refine Run.ops ?_
                  refine SOps.st rfl rfl (Yv.loadBs (i := 9) lay24 rfl rfl rfl rfl).yl ?_
                  refine SOps.one rfl (One.callRow rfl callable17 (.cons rfl (.nil)) (fun w' hw' => toConvoy_spec ((Rd.arg hs) w' hw') (by omega)) (fun A9 c9 => ?_))
                  refine SOps.st rfl rfl (Yv.move rfl).yl ?_
                  refine SOps.st rfl rfl (Yv.move rfl).yl ?_
                  refine SOps.one rfl (One.callRow rfl callable47 (.cons rfl (.nil)) (fun w' hw' => toIntS_spec ((Rd.arg hs3) w' hw') (by omega)) (fun A10 c10 => ?_))
                  refine SOps.one rfl (One.callRow rfl callable31 (.cons rfl (.cons rfl (.cons rfl (.nil)))) (fun w' hw' => SlacksOf_spec ((Rd.row (i := 1) rfl) w' hw') ((Rd.row (i := 0) rfl) w' hw') (by omega)) (fun A11 c11 => ?_))
                  refine SOps.st rfl rfl (Yv.move rfl).yl ?_
                  refine SOps.st rfl rfl (Yv.extract rfl rfl).yl ?_
                  refine SOps.st rfl rfl (Yv.extract rfl rfl).yl ?_
                  refine SOps.st rfl rfl (Yv.assign rfl).yl ?_
                  refine SOps.st rfl rfl (Yv.assign rfl).yl ?_
                  refine SOps.nil ?_
                  refine Run.seq ?_
                  refine Run.seq ?_
                  refine Run.quiet (by intro h; cases h) ?_
                  refine QOps.st rfl rfl (Yv.move rfl).yl ?_
                  refine QOps.st rfl rfl (Yv.move rfl).yl ?_
                  refine QOps.st rfl rfl (Yl.call callable42 (.cons rfl (.cons rfl (.nil))) (fun w' hw' => eqIntS_spec ((Rd.row (i := 0) rfl) w' hw') ((Rd.row (i := 9) rfl) w' hw'))) ?_
                  refine QOps.st rfl rfl (Yv.not rfl).yl ?_
                  refine QOps.st rfl rfl (Yv.move rfl).yl ?_
                  refine' QOps.or [_, _, _] _ (.tmp 112) rfl rfl rfl rfl rfl rfl (fun hg4 => ?_) ?_
                  rotate_left
                  · try replace hg4 := of_decide_eq_false hg4
                    refine QOps.st rfl rfl (Yv.move rfl).yl ?_
                    refine QOps.st rfl rfl (Yv.move rfl).yl ?_
                    refine QOps.st rfl rfl (Yv.neB bool4 rfl rfl).yl ?_
                    exact QOps.nil rfl
                  refine QOps.nil ?_
                  refine Run.cond rfl (fun hc9 => ?_) (fun hc9 => ?_)
                  · exfalso
                    first | (simp at hc9; done) | (simp at hc9; omega) | omega
                  · try replace hc9 := of_decide_eq_false hc9
                    refine Run.skip ?_
                    refine Run.seq ?_
                    refine Run.quiet (by intro h; cases h) ?_
                    refine QOps.st rfl rfl (Yv.assign rfl).yl ?_
                    refine QOps.nil ?_
                    refine Run.seq ?_
                    refine Run.quiet (by intro h; cases h) ?_
                    refine QOps.st rfl rfl (Yv.move rfl).yl ?_
                    refine QOps.st rfl rfl (Yv.move rfl).yl ?_
                    refine QOps.st rfl rfl (Yl.call callable44 (.cons rfl (.cons rfl (.nil))) (fun w' hw' => heldIntS_spec ((Rd.row (i := 5) rfl) w' hw') (by omega) (by omega) (by omega))) ?_
                    refine QOps.st rfl rfl (Yv.assign rfl).yl ?_
                    refine QOps.nil ?_
                    refine Run.seq ?_
                    refine Run.seq ?_
                    refine Run.quiet (by intro h; cases h) ?_
                    refine QOps.st rfl rfl (Yv.move rfl).yl ?_
                    refine QOps.st rfl rfl (Yv.lss rfl rfl).yl ?_
                    refine QOps.nil ?_
                    refine Run.cond rfl (fun hc10 => ?_) (fun hc10 => ?_)
                    · exfalso
                      first | (simp at hc10; done) | (simp at hc10; omega) | omega
                    · try replace hc10 := of_decide_eq_false hc10
                      refine Run.skip ?_
                      refine Run.seq ?_
                      refine Run.seq ?_
                      refine Run.quiet (by intro h; cases h) ?_
                      refine QOps.st rfl rfl (Yv.move rfl).yl ?_
                      refine QOps.st rfl rfl (Yv.move rfl).yl ?_
                      refine QOps.st rfl rfl (Yv.neI rfl rfl).yl ?_
                      refine QOps.nil ?_
                      refine Run.cond rfl (fun hc11 => ?_) (fun hc11 => ?_)
                      · exfalso
                        first | (simp at hc11; done) | (simp at hc11; omega) | omega
                      · try replace hc11 := of_decide_eq_false hc11
                        refine Run.skip ?_
                        refine Run.seq ?_
                        refine Run.quiet (by intro h; cases h) ?_
                        refine QOps.st rfl rfl (Yv.assign rfl).yl ?_
                        refine QOps.nil ?_
                        refine Run.ret ?_
                        refine retQ.of (.inr rfl) rfl (.tmp rfl .nil) (fun w' hw' => ?_)
                        refine ⟨?_, hw'.bel.below⟩
                        exact rfl

end Go.Proofs.Ytfpglglolhlegaa
