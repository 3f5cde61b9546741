/- Convoys: the greedy split, the shortest chamber. Conditions: none. -/
import Derived.Test.YtfpglglolhlegaaCon2
namespace Go.Proofs.Ytfpglglolhlegaa
open Go.RowKit
/-- The barges from k on: does the one at k + n fit beside the n ahead of it? -/
def fits (p : Int) (l : List Int) (cl : Int) (k n : Nat) : Bool := decide ((k : Int) + (n : Int) < (l.length : Int)) && decide (p + (sumTo l (k + n + 1) - sumTo l k) ≤ cl)
theorem fits_lt {p cl : Int} {l : List Int} {k n : Nat} (h : fits p l cl k n = true) : k + n < l.length := by
  simp [fits] at h
  omega
def takeN (p : Int) (l : List Int) (cl : Int) (k : Nat) : Nat := (firstTo (l.length + 1) (fun n => !fits p l cl k n)).getD 0
theorem takeN_eq {p cl : Int} {l : List Int} {k n : Nat} (hk : k + n ≤ l.length) (hall : ∀ i, i < n → fits p l cl k i = true) (hn : fits p l cl k n = false) : takeN p l cl k = n := by
  unfold takeN
  rw [firstTo_some (k := n) (by omega) (by simp [hn]) (fun i hi => by simp [hall i hi])]
  rfl
def greedyGo (p : Int) (l : List Int) (cl : Int) : Nat → Nat → List Int → List Int × Bool
  | 0, _, o => (o, true)
  | f + 1, k, o => if l.length ≤ k then (o, true) else if takeN p l cl k = 0 then ([], false) else greedyGo p l cl f (k + takeN p l cl k) (o ++ [(takeN p l cl k : Int)])
/-- The greedy split, and whether there is one. -/
def greedy (p : Int) (l : List Int) (cl : Int) : List Int × Bool := greedyGo p l cl (l.length + 1) 0 []
theorem l19SumI_spec {w : World} {A : Option Addr} {c : Nat} {p a b : Int} {l : List Int} (lo hi : Nat) (ha : a = (lo : Int)) (hb' : b = (hi : Int)) (hs : Sl w 1 A l.length c (l.flatMap intC)) (hl : l.length ≤ 1000) (hp : 1 ≤ p ∧ p ≤ 3) (hb : ∀ k, k < l.length → 1 ≤ nth l k ∧ nth l k ≤ 6) (hlo : lo ≤ hi) (hhi : hi ≤ l.length) :
    Calls Try.prog 58 #[.agg #[.int .i64 p, .slice A l.length c], .int .i64 a, .int .i64 b] w (RetB w (.int .i64 (p + (sumTo l hi - sumTo l lo)))) := by
  subst ha; subst hb'
  exact l19Sum_spec hs hl hp hb hlo hhi
theorem l19Greedy_spec {w : World} {A : Option Addr} {c : Nat} {p cl : Int} {l : List Int} (hs : Sl w 1 A l.length c (l.flatMap intC)) (hv : validConvoy p l = true) (_hcl : 1 ≤ cl ∧ cl ≤ 20) :
    Calls Try.prog 68 #[.agg #[.int .i64 p, .slice A l.length c], .int .i64 cl] w (RetRow w 3 1 (greedy p l cl).1.length ((greedy p l cl).1.flatMap intC) (fun v => .tuple #[v, .bool (greedy p l cl).2])) := by
  obtain ⟨hp1, hp2, hl1, hl2, hbb⟩ := validConvoy_ok hv
  refine calls_of_run (vs := [_, _]) (L := [(0, _), (1, _)]) (n := 46) (F := []) (H := []) Try.func68 rfl rfl rfl rfl (HOk.start _) ?_
  refine Run.seq ?_
  refine Run.ops ?_
  refine SOps.one rfl (One.box (cs := [_, _]) rfl rfl rfl (fun b1 => ?_))
  refine SOps.st rfl rfl (Yv.assign rfl).yl ?_
  refine SOps.st rfl rfl (Yv.assign rfl).yl ?_
  refine SOps.nil ?_
  refine Run.seq ?_
  refine Run.ops ?_
  refine SOps.one rfl (One.buildSliceG (pv := []) (cs := []) (fun _ => []) rfl el22 .nil rfl rfl (by kernel_rfl) rfl rfl (fun b2 => ?_))
  refine SOps.st rfl rfl (Yv.assign rfl).yl ?_
  refine SOps.nil ?_
  refine Run.seq ?_
  refine Run.quiet (by intro h; cases h) ?_
  refine QOps.st rfl rfl (Yv.assign rfl).yl ?_
  refine QOps.nil ?_
  refine Run.seq ?_
  refine Run.block ?_
  refine Run.loop (S := Nat × List Int × Option Addr × Nat × Nat) (fun s => match s with | (k, o, A2, c2, f) => k ≤ l.length ∧ l.length + 1 ≤ k + f ∧ o.length ≤ k ∧ greedyGo p l cl f k o = greedy p l cl) (fun s => match s with | (k, o, A2, c2, f) => [(2, .pointer (some ⟨b1, 0, none⟩)), (1, .int .i64 cl), (6, .slice A2 o.length c2), (7, .int .i64 (k : Int))]) (fun s => match s with | (k, o, A2, c2, f) => [.row A2 c2 3 1 o.length (o.flatMap intC), .blk b1 27 [.int .i64 p, .slice A l.length c]]) (fun s => match s with | (k, o, A2, c2, f) => l.length - k) (0, [], some ⟨b2, 0, none⟩, 0, l.length + 1) ?_ (SubE.cons rfl (SubE.cons rfl (SubE.cons rfl (SubE.cons rfl (SubE.nil _))))) (List.Sublist.refl _) ?_
  · exact ⟨by omega, by omega, by simp, rfl⟩
  · rintro ⟨k, o, A2, c2, f⟩ ⟨hk, hf, hol, hg⟩
    show Run _ _ _ _ _ [(2, .pointer (some ⟨b1, 0, none⟩)), (1, .int .i64 cl), (6, .slice A2 o.length c2), (7, .int .i64 (k : Int))] [.row A2 c2 3 1 o.length (o.flatMap intC), .blk b1 27 [.int .i64 p, .slice A l.length c]] _
    refine Run.seq ?_
    refine Run.seq ?_
    refine Run.quiet (by intro h; cases h) ?_
    refine QOps.st rfl rfl (Yv.move rfl).yl ?_
    refine QOps.st rfl rfl (Yv.fieldAddr fld27_1 rfl).yl ?_
    refine QOps.st rfl rfl (Yv.loadB (i := 1) lay22 rfl rfl rfl rfl).yl ?_
    refine QOps.st rfl rfl (Yv.lenS el22s rfl).yl ?_
    refine QOps.st rfl rfl (Yv.lss rfl rfl).yl ?_
    refine QOps.nil ?_
    refine Run.cond rfl (fun hc1 => ?_) (fun hc1 => ?_)
    · try replace hc1 := of_decide_eq_true hc1
      refine Run.skip ?_
      refine Run.block ?_
      refine Run.seq ?_
      refine Run.quiet (by intro h; cases h) ?_
      refine QOps.st rfl rfl (Yv.assign rfl).yl ?_
      refine QOps.nil ?_
      refine Run.seq ?_
      refine Run.block ?_
      refine Run.loop (S := Nat) (fun s => match s with | n => k + n ≤ l.length ∧ ∀ i, i < n → fits p l cl k i = true) (fun s => match s with | n => [(2, .pointer (some ⟨b1, 0, none⟩)), (1, .int .i64 cl), (6, .slice A2 o.length c2), (7, .int .i64 (k : Int)), (8, .int .i64 (n : Int))]) (fun s => match s with | n => [.row A2 c2 3 1 o.length (o.flatMap intC), .blk b1 27 [.int .i64 p, .slice A l.length c]]) (fun s => match s with | n => l.length - (k + n)) 0 ?_ (SubE.cons rfl (SubE.cons rfl (SubE.cons rfl (SubE.cons rfl (SubE.cons rfl (SubE.nil _)))))) (List.Sublist.refl _) ?_
      · exact ⟨by omega, fun i hi => by omega⟩
      · rintro n ⟨hkn, hin⟩
        show Run _ _ _ _ _ [(2, .pointer (some ⟨b1, 0, none⟩)), (1, .int .i64 cl), (6, .slice A2 o.length c2), (7, .int .i64 (k : Int)), (8, .int .i64 (n : Int))] [.row A2 c2 3 1 o.length (o.flatMap intC), .blk b1 27 [.int .i64 p, .slice A l.length c]] _
        have hb1 := sumTo_bnd hbb (n := k) (by omega)
        refine Run.seq ?_
        refine Run.seq ?_
        refine Run.quiet (by intro h; cases h) ?_
        refine QOps.st rfl rfl (Yv.move rfl).yl ?_
        refine QOps.st rfl rfl (Yv.move rfl).yl ?_
        refine QOps.st rfl rfl (Yv.add rfl rfl (by omega)).yl ?_
        refine QOps.st rfl rfl (Yv.fieldAddr fld27_1 rfl).yl ?_
        refine QOps.st rfl rfl (Yv.loadB (i := 1) lay22 rfl rfl rfl rfl).yl ?_
        refine QOps.st rfl rfl (Yv.lenS el22s rfl).yl ?_
        refine QOps.st rfl rfl (Yv.lss rfl rfl).yl ?_
        refine QOps.st rfl rfl (Yv.move rfl).yl ?_
        refine' QOps.and [_, _, _, _, _, _, _, _, _] _ (.tmp 31) rfl rfl rfl rfl rfl rfl (fun hg1 => ?_) ?_
        rotate_left
        · try replace hg1 := of_decide_eq_true hg1
          refine QOps.st rfl rfl (Yv.loadBs (i := 1) lay27 rfl rfl rfl rfl).yl ?_
          refine QOps.st rfl rfl (Yv.move rfl).yl ?_
          refine QOps.st rfl rfl (Yv.move rfl).yl ?_
          refine QOps.st rfl rfl (Yv.move rfl).yl ?_
          refine QOps.st rfl rfl (Yv.add rfl rfl (by omega)).yl ?_
          refine QOps.st rfl rfl (Yv.add rfl rfl (by omega)).yl ?_
          refine QOps.st rfl rfl (Yl.call callable58 (.cons rfl (.cons rfl (.cons rfl (.nil)))) (fun w' hw' => l19SumI_spec k (k + n + 1) rfl (by push_cast; rfl) (Rd.arg hs _ hw') (by omega) ⟨hp1, hp2⟩ hbb (by omega) (by omega))) ?_
          refine QOps.st rfl rfl (Yv.move rfl).yl ?_
          refine QOps.st rfl rfl (Yv.leq rfl rfl).yl ?_
          exact QOps.nil rfl
        refine QOps.nil ?_
        refine Run.cond rfl (fun hc2 => ?_) (fun hc2 => ?_)
        · try replace hc2 := of_decide_eq_true hc2
          refine Run.skip ?_
          refine Run.block ?_
          refine Run.quiet (by intro h; cases h) ?_
          refine QOps.st rfl rfl (Yv.move rfl).yl ?_
          refine QOps.st rfl rfl (Yv.succN rfl rfl (by omega)).yl ?_
          refine QOps.st rfl rfl (Yv.assign rfl).yl ?_
          refine QOps.nil ?_
          refine ⟨n + 1, ?_, ?_, (SubE.cons rfl (SubE.cons rfl (SubE.cons rfl (SubE.cons rfl (SubE.cons rfl (SubE.nil _)))))), (List.Sublist.refl _)⟩
          · exact ⟨by have hfl := fits_lt (show fits p l cl k n = true from hc2); omega, all_succ hin hc2⟩
          · (have hfl := fits_lt (show fits p l cl k n = true from hc2); dsimp only; omega)
        · try replace hc2 := of_decide_eq_false hc2
          have htn := takeN_eq hkn hin (show fits p l cl k n = false from hc2)
          have hgo : ∀ g, f = g + 1 → greedyGo p l cl f k o = if takeN p l cl k = 0 then ([], false) else greedyGo p l cl g (k + takeN p l cl k) (o ++ [(takeN p l cl k : Int)]) := by intro g hg; subst hg; rw [greedyGo, if_neg (by omega)]
          refine Run.exit ?_
          refine Run.seq ?_
          refine Run.seq ?_
          refine Run.quiet (by intro h; cases h) ?_
          refine QOps.st rfl rfl (Yv.move rfl).yl ?_
          refine QOps.st rfl rfl (Yv.eqI rfl rfl).yl ?_
          refine QOps.nil ?_
          refine Run.cond rfl (fun hc3 => ?_) (fun hc3 => ?_)
          · try replace hc3 := of_decide_eq_true hc3
            refine Run.seq ?_
            refine Run.ops ?_
            refine SOps.one rfl (One.buildSliceG (pv := []) (cs := []) (fun _ => []) rfl el22 .nil rfl rfl (by kernel_rfl) rfl rfl (fun b3 => ?_))
            refine SOps.st rfl rfl (Yv.assign rfl).yl ?_
            refine SOps.st rfl rfl (Yv.assign rfl).yl ?_
            refine SOps.nil ?_
            refine Run.ret ?_
            have hz : greedy p l cl = ([], false) := by rw [← hg, hgo (f - 1) (by omega), if_pos (by omega)]
            refine retQ.of (.inr rfl) rfl (.tmp rfl (.tmp rfl .nil)) (fun w' hw' => ?_)
            rw [hz]; exact ⟨_, _, rfl, hw'.bel.below, hw'.ent _ (List.mem_of_getElem? (i := 0) rfl), fun g hg => (hw'.own _ (List.mem_of_getElem? (i := 0) rfl) g hg).elim id (by simp)⟩
          · try replace hc3 := of_decide_eq_false hc3
            refine Run.skip ?_
            refine Run.seq ?_
            refine Run.ops ?_
            refine SOps.st rfl rfl (Yv.move rfl).yl ?_
            refine SOps.st rfl rfl (Yv.move rfl).yl ?_
            refine SOps.one rfl (One.buildSliceG (pv := [(0, _)]) (cs := [_]) (fun l => match l with | [a0_0] => [a0_0] | _ => []) rfl el22 (.cons rfl (.nil)) rfl rfl (by kernel_rfl) rfl rfl (fun b4 => ?_))
            refine SOps.one rfl (One.append (enc := intC) (l := o) (l2 := [(n : Int)]) (m' := (o ++ [(n : Int)]).length) (i := 1) (H' := fun A c => [_, _, _]) rfl el22 zero3 rfl (by decide) rfl rfl rfl (Rd.row (i := 0) rfl) (fun _ => rfl) (by simp) (by simp; omega) (by simp; omega) (fun _ _ => rfl) (fun A1 c1 => ?_))
            refine SOps.st rfl rfl (Yv.assign rfl).yl ?_
            refine SOps.nil ?_
            refine Run.quiet (by intro h; cases h) ?_
            refine QOps.st rfl rfl (Yv.move rfl).yl ?_
            refine QOps.st rfl rfl (Yv.move rfl).yl ?_
            refine QOps.st rfl rfl (Yv.add rfl rfl (by omega)).yl ?_
            refine QOps.st rfl rfl (Yv.assign rfl).yl ?_
            refine QOps.nil ?_
            refine ⟨(k + n, _, _, _, f - 1), ?_, ?_, (SubE.cons rfl (SubE.cons rfl (SubE.cons rfl (SubE.cons (congrArg some (by simp)) (SubE.nil _))))), (List.Sublist.cons _ (List.Sublist.refl _))⟩
            · exact ⟨by omega, by omega, by simp; omega, by rw [← hg, hgo (f - 1) (by omega), if_neg (by omega), htn]⟩
            · first | omega | (dsimp only; omega)
    · try replace hc1 := of_decide_eq_false hc1
      refine Run.exit ?_
      refine Run.seq ?_
      refine Run.quiet (by intro h; cases h) ?_
      refine QOps.st rfl rfl (Yv.move rfl).yl ?_
      refine QOps.st rfl rfl (Yv.assign rfl).yl ?_
      refine QOps.st rfl rfl (Yv.assign rfl).yl ?_
      refine QOps.nil ?_
      refine Run.ret ?_
      have hz : greedy p l cl = (o, true) := by rw [← hg]; obtain ⟨g, rfl⟩ : ∃ g, f = g + 1 := ⟨f - 1, by omega⟩; rw [greedyGo, if_pos (by omega)]
      refine retQ.of (.inr rfl) rfl (.tmp rfl (.tmp rfl .nil)) (fun w' hw' => ?_)
      rw [hz]; exact ⟨_, _, rfl, hw'.bel.below, hw'.ent _ (List.mem_of_getElem? (i := 0) rfl), fun g hg => (hw'.own _ (List.mem_of_getElem? (i := 0) rfl) g hg).elim id (by simp)⟩
theorem fits_eq {p cl : Int} {l : List Int} {k n : Nat} : fits p l cl k n = (decide (((k + n : Nat) : Int) < (l.length : Int)) && decide (nth l (k + n) ≤ cl - (p + (sumTo l (k + n) - sumTo l k)))) := by
  unfold fits
  have h : sumTo l (k + n + 1) = sumTo l (k + n) + nth l (k + n) := rfl
  congr 1
  rw [h]
  exact decide_eq_decide.2 (by omega)
theorem greedySplit_spec {w : World} {A : Option Addr} {c : Nat} {p cl : Int} {l : List Int} (hs : Sl w 1 A l.length c (l.flatMap intC)) (hv : validConvoy p l = true) (hcl : 1 ≤ cl ∧ cl ≤ 20) :
    Calls Try.prog 66 #[.agg #[.int .i64 p, .slice A l.length c], .int .i64 cl] w (RetRow w 3 1 (greedy p l cl).1.length ((greedy p l cl).1.flatMap intC) (fun v => .tuple #[v, .bool (greedy p l cl).2])) := by
  obtain ⟨hp1, hp2, hl1, hl2, hbb⟩ := validConvoy_ok hv
  refine calls_of_run (vs := [_, _]) (L := [(0, _), (1, _)]) (n := 52) (F := []) (H := []) Try.func66 rfl rfl rfl rfl (HOk.start _) ?_
  refine Run.seq ?_
  refine Run.ops ?_
  refine SOps.one rfl (One.box (cs := [_, _]) rfl rfl rfl (fun b1 => ?_))
  refine SOps.st rfl rfl (Yv.assign rfl).yl ?_
  refine SOps.st rfl rfl (Yv.assign rfl).yl ?_
  refine SOps.nil ?_
  refine Run.seq ?_
  refine Run.ops ?_
  refine SOps.one rfl (One.buildSliceG (pv := []) (cs := []) (fun _ => []) rfl el22 .nil rfl rfl (by kernel_rfl) rfl rfl (fun b2 => ?_))
  refine SOps.st rfl rfl (Yv.assign rfl).yl ?_
  refine SOps.nil ?_
  refine Run.seq ?_
  refine Run.seq ?_
  refine Run.quiet (by intro h; cases h) ?_
  refine QOps.st rfl rfl (Yv.assign rfl).yl ?_
  refine QOps.nil ?_
  refine Run.block ?_
  refine Run.loop (S := Nat × List Int × Option Addr × Nat × Nat) (fun s => match s with | (k, o, A2, c2, f) => k ≤ l.length ∧ l.length + 1 ≤ k + f ∧ o.length ≤ k ∧ greedyGo p l cl f k o = greedy p l cl) (fun s => match s with | (k, o, A2, c2, f) => [(2, .pointer (some ⟨b1, 0, none⟩)), (1, .int .i64 cl), (6, .slice A2 o.length c2), (7, .int .i64 (k : Int))]) (fun s => match s with | (k, o, A2, c2, f) => [.row A2 c2 3 1 o.length (o.flatMap intC), .blk b1 27 [.int .i64 p, .slice A l.length c]]) (fun s => match s with | (k, o, A2, c2, f) => l.length - k) (0, [], some ⟨b2, 0, none⟩, 0, l.length + 1) ?_ (SubE.cons rfl (SubE.cons rfl (SubE.cons rfl (SubE.cons rfl (SubE.nil _))))) (List.Sublist.refl _) ?_
  · exact ⟨by omega, by omega, by simp, rfl⟩
  · rintro ⟨k, o, A2, c2, f⟩ ⟨hk, hf, hol, hg⟩
    show Run _ _ _ _ _ [(2, .pointer (some ⟨b1, 0, none⟩)), (1, .int .i64 cl), (6, .slice A2 o.length c2), (7, .int .i64 (k : Int))] [.row A2 c2 3 1 o.length (o.flatMap intC), .blk b1 27 [.int .i64 p, .slice A l.length c]] _
    refine Run.seq ?_
    refine Run.seq ?_
    refine Run.quiet (by intro h; cases h) ?_
    refine QOps.st rfl rfl (Yv.move rfl).yl ?_
    refine QOps.st rfl rfl (Yv.fieldAddr fld27_1 rfl).yl ?_
    refine QOps.st rfl rfl (Yv.loadB (i := 1) lay22 rfl rfl rfl rfl).yl ?_
    refine QOps.st rfl rfl (Yv.lenS el22s rfl).yl ?_
    refine QOps.st rfl rfl (Yv.lss rfl rfl).yl ?_
    refine QOps.nil ?_
    refine Run.cond rfl (fun hc1 => ?_) (fun hc1 => ?_)
    · try replace hc1 := of_decide_eq_true hc1
      refine Run.skip ?_
      refine Run.block ?_
      refine Run.seq ?_
      refine Run.quiet (fun _ => ⟨by kernel_rfl, by kernel_rfl⟩) ?_
      refine QOps.st rfl rfl (Yv.move rfl).yl ?_
      refine QOps.st rfl rfl (Yv.fieldAddr fld27_0 rfl).yl ?_
      refine QOps.st rfl rfl (Yv.loadB (i := 1) lay3 rfl rfl rfl rfl).yl ?_
      refine QOps.st rfl rfl (Yv.sub rfl rfl (by omega)).yl ?_
      refine QOps.st rfl rfl (Yv.assign rfl).yl ?_
      refine QOps.st rfl rfl (Yv.assign rfl).yl ?_
      refine QOps.nil ?_
      refine Run.seq ?_
      refine Run.block ?_
      refine Run.loop (S := Nat) (fun s => match s with | n => k + n ≤ l.length ∧ ∀ i, i < n → fits p l cl k i = true) (fun s => match s with | n => [(2, .pointer (some ⟨b1, 0, none⟩)), (1, .int .i64 cl), (6, .slice A2 o.length c2), (7, .int .i64 ((k + n : Nat) : Int)), (8, .int .i64 (n : Int)), (9, .int .i64 (cl - (p + (sumTo l (k + n) - sumTo l k))))]) (fun s => match s with | n => [.row A2 c2 3 1 o.length (o.flatMap intC), .blk b1 27 [.int .i64 p, .slice A l.length c]]) (fun s => match s with | n => l.length - (k + n)) 0 ?_ (SubE.cons rfl (SubE.cons rfl (SubE.cons rfl (SubE.cons rfl (SubE.cons rfl (SubE.cons (congrArg some (by rw [Nat.add_zero, Int.sub_self, Int.add_zero])) (SubE.nil _))))))) (List.Sublist.refl _) ?_
      · exact ⟨by omega, fun i hi => by omega⟩
      · rintro n ⟨hkn, hin⟩
        show Run _ _ _ _ _ [(2, .pointer (some ⟨b1, 0, none⟩)), (1, .int .i64 cl), (6, .slice A2 o.length c2), (7, .int .i64 ((k + n : Nat) : Int)), (8, .int .i64 (n : Int)), (9, .int .i64 (cl - (p + (sumTo l (k + n) - sumTo l k))))] [.row A2 c2 3 1 o.length (o.flatMap intC), .blk b1 27 [.int .i64 p, .slice A l.length c]] _
        have hb1 := sumTo_bnd hbb (n := k) (by omega)
        have hb2 := sumTo_bnd hbb (n := k + n) (by omega)
        refine Run.seq ?_
        refine Run.seq ?_
        refine Run.quiet (by intro h; cases h) ?_
        refine QOps.st rfl rfl (Yv.move rfl).yl ?_
        refine QOps.st rfl rfl (Yv.fieldAddr fld27_1 rfl).yl ?_
        refine QOps.st rfl rfl (Yv.loadB (i := 1) lay22 rfl rfl rfl rfl).yl ?_
        refine QOps.st rfl rfl (Yv.lenS el22s rfl).yl ?_
        refine QOps.st rfl rfl (Yv.lss rfl rfl).yl ?_
        refine QOps.st rfl rfl (Yv.move rfl).yl ?_
        refine' QOps.and [_, _, _, _, _, _, _] _ (.tmp 32) rfl rfl rfl rfl rfl rfl (fun hg1 => ?_) ?_
        rotate_left
        · try replace hg1 := of_decide_eq_true hg1
          refine QOps.st rfl rfl (Yv.fieldAddr fld27_1 rfl).yl ?_
          refine QOps.st rfl rfl (Yv.loadB (i := 1) lay22 rfl rfl rfl rfl).yl ?_
          refine QOps.st rfl rfl (Yv.move rfl).yl ?_
          refine QOps.st rfl rfl (Yv.indexAddr (k + n) el22 rfl rfl rfl (Rd.arg hs) (by omega)).yl ?_
          refine QOps.st rfl rfl (Yv.loadE lay3 rfl intC_len (Rd.arg hs) (by first | omega | (simp; omega)) rfl).yl ?_
          refine QOps.st rfl rfl (Yv.move rfl).yl ?_
          refine QOps.st rfl rfl (Yv.leq rfl rfl).yl ?_
          exact QOps.nil rfl
        refine QOps.nil ?_
        refine Run.cond rfl (fun hc2 => ?_) (fun hc2 => ?_)
        · try replace hc2 := of_decide_eq_true hc2
          have hft : fits p l cl k n = true := by rw [fits_eq]; exact hc2
          have hb3 := hbb (k + n) (fits_lt hft)
          have hb4 := fits_lt hft
          refine Run.skip ?_
          refine Run.block ?_
          refine Run.seq ?_
          refine Run.quiet (by intro h; cases h) ?_
          refine QOps.st rfl rfl (Yv.move rfl).yl ?_
          refine QOps.st rfl rfl (Yv.fieldAddr fld27_1 rfl).yl ?_
          refine QOps.st rfl rfl (Yv.loadB (i := 1) lay22 rfl rfl rfl rfl).yl ?_
          refine QOps.st rfl rfl (Yv.move rfl).yl ?_
          refine QOps.st rfl rfl (Yv.indexAddr (k + n) el22 rfl rfl rfl (Rd.arg hs) (by omega)).yl ?_
          refine QOps.st rfl rfl (Yv.loadE lay3 rfl intC_len (Rd.arg hs) (by first | omega | (simp; omega)) rfl).yl ?_
          refine QOps.st rfl rfl (Yv.sub rfl rfl (by omega)).yl ?_
          refine QOps.st rfl rfl (Yv.assign rfl).yl ?_
          refine QOps.nil ?_
          refine Run.seq ?_
          refine Run.quiet (by intro h; cases h) ?_
          refine QOps.st rfl rfl (Yv.move rfl).yl ?_
          refine QOps.st rfl rfl (Yv.succN rfl rfl (by omega)).yl ?_
          refine QOps.st rfl rfl (Yv.assign rfl).yl ?_
          refine QOps.nil ?_
          refine Run.quiet (by intro h; cases h) ?_
          refine QOps.st rfl rfl (Yv.move rfl).yl ?_
          refine QOps.st rfl rfl (Yv.succN rfl rfl (by omega)).yl ?_
          refine QOps.st rfl rfl (Yv.assign rfl).yl ?_
          refine QOps.nil ?_
          refine ⟨n + 1, ?_, ?_, (SubE.cons rfl (SubE.cons rfl (SubE.cons rfl (SubE.cons rfl (SubE.cons rfl (SubE.cons (congrArg some (by rw [show sumTo l (k + (n + 1)) = sumTo l (k + n) + nth l (k + n) from rfl]; congr 1; omega)) (SubE.nil _))))))), (List.Sublist.refl _)⟩
          · exact ⟨by have hfl := fits_lt hft; omega, all_succ hin hft⟩
          · (have hfl := fits_lt hft; dsimp only; omega)
        · try replace hc2 := of_decide_eq_false hc2
          have htn := takeN_eq hkn hin (show fits p l cl k n = false from by rw [fits_eq]; exact hc2)
          have hgo : ∀ g, f = g + 1 → greedyGo p l cl f k o = if takeN p l cl k = 0 then ([], false) else greedyGo p l cl g (k + takeN p l cl k) (o ++ [(takeN p l cl k : Int)]) := by intro g hg; subst hg; rw [greedyGo, if_neg (by omega)]
          refine Run.exit ?_
          refine Run.seq ?_
          refine Run.seq ?_
          refine Run.quiet (by intro h; cases h) ?_
          refine QOps.st rfl rfl (Yv.move rfl).yl ?_
          refine QOps.st rfl rfl (Yv.eqI rfl rfl).yl ?_
          refine QOps.nil ?_
          refine Run.cond rfl (fun hc3 => ?_) (fun hc3 => ?_)
          · try replace hc3 := of_decide_eq_true hc3
            refine Run.seq ?_
            refine Run.quiet (by intro h; cases h) ?_
            refine QOps.st rfl rfl (Yv.assign rfl).yl ?_
            refine QOps.st rfl rfl (Yv.assign rfl).yl ?_
            refine QOps.nil ?_
            refine Run.ret ?_
            have hz : greedy p l cl = ([], false) := by rw [← hg, hgo (f - 1) (by omega), if_pos (by omega)]
            refine retQ.of (.inr rfl) rfl (.tmp rfl (.tmp rfl .nil)) (fun w' hw' => ?_)
            rw [hz]; exact ⟨_, _, rfl, hw'.bel.below, ⟨by first | rfl | simp, .inl ⟨rfl, rfl⟩⟩, by simp⟩
          · try replace hc3 := of_decide_eq_false hc3
            refine Run.skip ?_
            refine Run.ops ?_
            refine SOps.st rfl rfl (Yv.move rfl).yl ?_
            refine SOps.st rfl rfl (Yv.move rfl).yl ?_
            refine SOps.one rfl (One.buildSliceG (pv := [(0, _)]) (cs := [_]) (fun l => match l with | [a0_0] => [a0_0] | _ => []) rfl el22 (.cons rfl (.nil)) rfl rfl (by kernel_rfl) rfl rfl (fun b3 => ?_))
            refine SOps.one rfl (One.append (enc := intC) (l := o) (l2 := [(n : Int)]) (m' := (o ++ [(n : Int)]).length) (i := 1) (H' := fun A c => [_, _, _]) rfl el22 zero3 rfl (by decide) rfl rfl rfl (Rd.row (i := 0) rfl) (fun _ => rfl) (by simp) (by simp; omega) (by simp; omega) (fun _ _ => rfl) (fun A1 c1 => ?_))
            refine SOps.st rfl rfl (Yv.assign rfl).yl ?_
            refine SOps.nil ?_
            refine ⟨(k + n, _, _, _, f - 1), ?_, ?_, (SubE.cons rfl (SubE.cons rfl (SubE.cons rfl (SubE.cons rfl (SubE.nil _))))), (List.Sublist.cons _ (List.Sublist.refl _))⟩
            · exact ⟨by omega, by omega, by simp; omega, by rw [← hg, hgo (f - 1) (by omega), if_neg (by omega), htn]⟩
            · first | omega | (dsimp only; omega)
    · try replace hc1 := of_decide_eq_false hc1
      refine Run.exit ?_
      refine Run.seq ?_
      refine Run.quiet (by intro h; cases h) ?_
      refine QOps.st rfl rfl (Yv.move rfl).yl ?_
      refine QOps.st rfl rfl (Yv.assign rfl).yl ?_
      refine QOps.st rfl rfl (Yv.assign rfl).yl ?_
      refine QOps.nil ?_
      refine Run.ret ?_
      have hz : greedy p l cl = (o, true) := by rw [← hg]; obtain ⟨g, rfl⟩ : ∃ g, f = g + 1 := ⟨f - 1, by omega⟩; rw [greedyGo, if_pos (by omega)]
      refine retQ.of (.inr rfl) rfl (.tmp rfl (.tmp rfl .nil)) (fun w' hw' => ?_)
      rw [hz]; exact ⟨_, _, rfl, hw'.bel.below, hw'.ent _ (List.mem_of_getElem? (i := 0) rfl), fun g hg => (hw'.own _ (List.mem_of_getElem? (i := 0) rfl) g hg).elim id (by simp)⟩
def shortQ (p : Int) (l : List Int) (parts : Int) (i : Nat) : Bool := (greedy p l ((i + 1 : Nat) : Int)).2 && decide (((greedy p l ((i + 1 : Nat) : Int)).1.length : Int) ≤ parts)
/-- The shortest chamber that takes them in so many parts. -/
def shortest (p : Int) (l : List Int) (parts : Int) : Int × Bool := if (validConvoy p l && inB parts 1 8) = true then (match firstTo 20 (shortQ p l parts) with | some j => (((j + 1 : Nat) : Int), true) | none => (0, false)) else (0, false)
theorem ShortestChamber_spec {w : World} {A : Option Addr} {c : Nat} {p : Int} {l : List Int} {parts : Int} (hs : Sl w 1 A l.length c (l.flatMap intC)) :
    Calls Try.prog 46 #[.agg #[.int .i64 p, .slice A l.length c], .int .i64 parts] w (RetB w (.tuple #[.int .i64 (shortest p l parts).1, .bool (shortest p l parts).2])) := by
  refine calls_of_run (vs := [_, _]) (L := [(0, _), (1, _)]) (n := 35) (F := []) (H := []) Try.func46 rfl rfl rfl rfl (HOk.start _) ?_
  refine Run.seq ?_
  refine Run.ops ?_
  refine SOps.one rfl (One.box (cs := [_, _]) rfl rfl rfl (fun b1 => ?_))
  refine SOps.st rfl rfl (Yv.assign rfl).yl ?_
  refine SOps.st rfl rfl (Yv.assign rfl).yl ?_
  refine SOps.nil ?_
  refine Run.seq ?_
  refine Run.seq ?_
  refine Run.quiet (by intro h; cases h) ?_
  refine QOps.st rfl rfl (Yv.loadBs (i := 0) lay27 rfl rfl rfl rfl).yl ?_
  refine QOps.st rfl rfl (Yl.call callable18 (.cons rfl (.nil)) (fun w' hw' => IsValidConvoy_spec ((Rd.arg hs) w' hw'))) ?_
  refine QOps.st rfl rfl (Yv.not rfl).yl ?_
  refine QOps.st rfl rfl (Yv.move rfl).yl ?_
  refine' QOps.or [_, _, _] _ (.tmp 15) rfl rfl rfl rfl rfl rfl (fun hg1 => ?_) ?_
  rotate_left
  · try replace hg1 := of_decide_eq_false hg1
    refine QOps.st rfl rfl (Yv.move rfl).yl ?_
    refine QOps.st rfl rfl (Yl.call callable55 (.cons rfl (.cons rfl (.cons rfl (.nil)))) (fun w' hw' => inside_spec)) ?_
    refine QOps.st rfl rfl (Yv.not rfl).yl ?_
    exact QOps.nil rfl
  refine QOps.nil ?_
  refine Run.cond rfl (fun hc1 => ?_) (fun hc1 => ?_)
  · try replace hc1 := of_decide_eq_true hc1
    have hn : ¬ (validConvoy p l && inB parts 1 8) = true := by revert hc1; cases validConvoy p l <;> cases inB parts 1 8 <;> simp
    refine Run.seq ?_
    refine Run.quiet (by intro h; cases h) ?_
    refine QOps.st rfl rfl (Yv.assign rfl).yl ?_
    refine QOps.st rfl rfl (Yv.assign rfl).yl ?_
    refine QOps.nil ?_
    refine Run.ret ?_
    refine retQ.of (.inr rfl) rfl (.tmp rfl (.tmp rfl .nil)) (fun w' hw' => ?_)
    refine ⟨?_, hw'.bel.below⟩
    unfold shortest; rw [if_neg hn]; rfl
  · try replace hc1 := of_decide_eq_false hc1
    have hy : (validConvoy p l && inB parts 1 8) = true := by revert hc1; cases validConvoy p l <;> cases inB parts 1 8 <;> simp
    have hyy := hy
    simp only [Bool.and_eq_true] at hyy
    obtain ⟨hg0, hg1⟩ := hyy
    refine Run.skip ?_
    refine Run.seq ?_
    refine Run.seq ?_
    refine Run.quiet (by intro h; cases h) ?_
    refine QOps.st rfl rfl (Yv.assign rfl).yl ?_
    refine QOps.nil ?_
    refine Run.block ?_
    refine Run.loop (S := Nat) (fun s => match s with | j => j ≤ 20 ∧ ∀ i, i < j → shortQ p l parts i = false) (fun s => match s with | j => [(2, .pointer (some ⟨b1, 0, none⟩)), (1, .int .i64 parts), (6, .int .i64 ((j + 1 : Nat) : Int))]) (fun s => match s with | j => [.blk b1 27 [.int .i64 p, .slice A l.length c]]) (fun s => match s with | j => 21 - j) 0 ?_ (SubE.cons rfl (SubE.cons rfl (SubE.cons rfl (SubE.nil _)))) (List.Sublist.refl _) ?_
    · exact ⟨by omega, fun i hi => by omega⟩
    · rintro j ⟨hk, hall⟩
      show Run _ _ _ _ _ [(2, .pointer (some ⟨b1, 0, none⟩)), (1, .int .i64 parts), (6, .int .i64 ((j + 1 : Nat) : Int))] [.blk b1 27 [.int .i64 p, .slice A l.length c]] _
      refine Run.seq ?_
      refine Run.seq ?_
      refine Run.quiet (by intro h; cases h) ?_
      refine QOps.st rfl rfl (Yv.move rfl).yl ?_
      refine QOps.st rfl rfl (Yv.leq rfl rfl).yl ?_
      refine QOps.nil ?_
      refine Run.cond rfl (fun hc2 => ?_) (fun hc2 => ?_)
      · try replace hc2 := of_decide_eq_true hc2
        refine Run.skip ?_
        refine Run.seq ?_
        refine Run.block ?_
        refine Run.seq ?_
        refine Run.ops ?_
        refine SOps.st rfl rfl (Yv.loadBs (i := 0) lay27 rfl rfl rfl rfl).yl ?_
        refine SOps.st rfl rfl (Yv.move rfl).yl ?_
        refine SOps.one rfl (One.callRow rfl callable66 (.cons rfl (.cons rfl (.nil))) (fun w' hw' => greedySplit_spec ((Rd.arg hs) w' hw') (by assumption) (by omega)) (fun A1 c1 => ?_))
        refine SOps.st rfl rfl (Yv.move rfl).yl ?_
        refine SOps.st rfl rfl (Yv.extract rfl rfl).yl ?_
        refine SOps.st rfl rfl (Yv.extract rfl rfl).yl ?_
        refine SOps.st rfl rfl (Yv.assign rfl).yl ?_
        refine SOps.st rfl rfl (Yv.assign rfl).yl ?_
        refine SOps.nil ?_
        refine Run.seq ?_
        refine Run.quiet (by intro h; cases h) ?_
        refine QOps.st rfl rfl (Yv.move rfl).yl ?_
        refine QOps.st rfl rfl (Yv.move rfl).yl ?_
        refine' QOps.and [_, _, _, _] _ (.tmp 32) rfl rfl rfl rfl rfl rfl (fun hg2 => ?_) ?_
        rotate_left
        · try replace hg2 := of_decide_eq_true hg2
          refine QOps.st rfl rfl (Yv.move rfl).yl ?_
          refine QOps.st rfl rfl (Yv.lenS el22s rfl).yl ?_
          refine QOps.st rfl rfl (Yv.move rfl).yl ?_
          refine QOps.st rfl rfl (Yv.leq rfl rfl).yl ?_
          exact QOps.nil rfl
        refine QOps.nil ?_
        refine Run.cond rfl (fun hc3 => ?_) (fun hc3 => ?_)
        · try replace hc3 := of_decide_eq_true hc3
          refine Run.seq ?_
          refine Run.quiet (by intro h; cases h) ?_
          refine QOps.st rfl rfl (Yv.move rfl).yl ?_
          refine QOps.st rfl rfl (Yv.assign rfl).yl ?_
          refine QOps.st rfl rfl (Yv.assign rfl).yl ?_
          refine QOps.nil ?_
          refine Run.ret ?_
          refine retQ.of (.inr rfl) rfl (.tmp rfl (.tmp rfl .nil)) (fun w' hw' => ?_)
          refine ⟨?_, hw'.bel.below⟩
          unfold shortest; rw [if_pos hy, firstTo_some (k := j) (by omega) hc3 hall]; rfl
        · try replace hc3 := of_decide_eq_false hc3
          refine Run.skip ?_
          refine Run.quiet (by intro h; cases h) ?_
          refine QOps.st rfl rfl (Yv.move rfl).yl ?_
          refine QOps.st rfl rfl (Yv.succN rfl rfl (by omega)).yl ?_
          refine QOps.st rfl rfl (Yv.assign rfl).yl ?_
          refine QOps.nil ?_
          refine ⟨j + 1, ?_, ?_, (SubE.cons rfl (SubE.cons rfl (SubE.cons rfl (SubE.nil _)))), (List.Sublist.cons _ (List.Sublist.refl _))⟩
          · exact ⟨by omega, all_succ hall hc3⟩
          · first | omega | (dsimp only; omega)
      · try replace hc2 := of_decide_eq_false hc2
        refine Run.exit ?_
        refine Run.seq ?_
        refine Run.quiet (by intro h; cases h) ?_
        refine QOps.st rfl rfl (Yv.assign rfl).yl ?_
        refine QOps.st rfl rfl (Yv.assign rfl).yl ?_
        refine QOps.nil ?_
        refine Run.ret ?_
        refine retQ.of (.inr rfl) rfl (.tmp rfl (.tmp rfl .nil)) (fun w' hw' => ?_)
        refine ⟨?_, hw'.bel.below⟩
        unfold shortest; rw [if_pos hy, firstTo_none (fun i hi => hall i (by omega))]; rfl
theorem sShortestChamber_spec {w : World} {A : Option Addr} {c : Nat} {p : Int} {l : List Int} {parts : Int} (hs : Sl w 1 A l.length c (l.flatMap intC)) :
    Calls Try.prog 45 #[.agg #[.int .i64 p, .slice A l.length c], .int .i64 parts] w (RetB w (.tuple #[.int .i64 (shortest p l parts).1, .bool (shortest p l parts).2])) := by
  refine calls_of_run (vs := [_, _]) (L := [(0, _), (1, _)]) (n := 35) (F := []) (H := []) Try.func45 rfl rfl rfl rfl (HOk.start _) ?_
  refine Run.seq ?_
  refine Run.ops ?_
  refine SOps.one rfl (One.box (cs := [_, _]) rfl rfl rfl (fun b1 => ?_))
  refine SOps.st rfl rfl (Yv.assign rfl).yl ?_
  refine SOps.st rfl rfl (Yv.assign rfl).yl ?_
  refine SOps.nil ?_
  refine Run.seq ?_
  refine Run.seq ?_
  refine Run.quiet (by intro h; cases h) ?_
  refine QOps.st rfl rfl (Yv.loadBs (i := 0) lay27 rfl rfl rfl rfl).yl ?_
  refine QOps.st rfl rfl (Yl.call callable54 (.cons rfl (.nil)) (fun w' hw' => l19Good_spec ((Rd.arg hs) w' hw'))) ?_
  refine QOps.st rfl rfl (Yv.not rfl).yl ?_
  refine QOps.st rfl rfl (Yv.move rfl).yl ?_
  refine' QOps.or [_, _, _] _ (.tmp 15) rfl rfl rfl rfl rfl rfl (fun hg1 => ?_) ?_
  rotate_left
  · try replace hg1 := of_decide_eq_false hg1
    refine QOps.st rfl rfl (Yv.move rfl).yl ?_
    refine QOps.st rfl rfl (Yl.call callable76 (.cons rfl (.cons rfl (.cons rfl (.nil)))) (fun w' hw' => l1In_spec)) ?_
    refine QOps.st rfl rfl (Yv.not rfl).yl ?_
    exact QOps.nil rfl
  refine QOps.nil ?_
  refine Run.cond rfl (fun hc1 => ?_) (fun hc1 => ?_)
  · try replace hc1 := of_decide_eq_true hc1
    have hn : ¬ (validConvoy p l && inB parts 1 8) = true := by revert hc1; cases validConvoy p l <;> cases inB parts 1 8 <;> simp
    refine Run.seq ?_
    refine Run.quiet (by intro h; cases h) ?_
    refine QOps.st rfl rfl (Yv.assign rfl).yl ?_
    refine QOps.st rfl rfl (Yv.assign rfl).yl ?_
    refine QOps.nil ?_
    refine Run.ret ?_
    refine retQ.of (.inr rfl) rfl (.tmp rfl (.tmp rfl .nil)) (fun w' hw' => ?_)
    refine ⟨?_, hw'.bel.below⟩
    unfold shortest; rw [if_neg hn]; rfl
  · try replace hc1 := of_decide_eq_false hc1
    have hy : (validConvoy p l && inB parts 1 8) = true := by revert hc1; cases validConvoy p l <;> cases inB parts 1 8 <;> simp
    have hyy := hy
    simp only [Bool.and_eq_true] at hyy
    obtain ⟨hg0, hg1⟩ := hyy
    refine Run.skip ?_
    refine Run.seq ?_
    refine Run.seq ?_
    refine Run.quiet (by intro h; cases h) ?_
    refine QOps.st rfl rfl (Yv.assign rfl).yl ?_
    refine QOps.nil ?_
    refine Run.block ?_
    refine Run.loop (S := Nat) (fun s => match s with | j => j ≤ 20 ∧ ∀ i, i < j → shortQ p l parts i = false) (fun s => match s with | j => [(2, .pointer (some ⟨b1, 0, none⟩)), (1, .int .i64 parts), (6, .int .i64 ((j + 1 : Nat) : Int))]) (fun s => match s with | j => [.blk b1 27 [.int .i64 p, .slice A l.length c]]) (fun s => match s with | j => 21 - j) 0 ?_ (SubE.cons rfl (SubE.cons rfl (SubE.cons rfl (SubE.nil _)))) (List.Sublist.refl _) ?_
    · exact ⟨by omega, fun i hi => by omega⟩
    · rintro j ⟨hk, hall⟩
      show Run _ _ _ _ _ [(2, .pointer (some ⟨b1, 0, none⟩)), (1, .int .i64 parts), (6, .int .i64 ((j + 1 : Nat) : Int))] [.blk b1 27 [.int .i64 p, .slice A l.length c]] _
      refine Run.seq ?_
      refine Run.seq ?_
      refine Run.quiet (by intro h; cases h) ?_
      refine QOps.st rfl rfl (Yv.move rfl).yl ?_
      refine QOps.st rfl rfl (Yv.leq rfl rfl).yl ?_
      refine QOps.nil ?_
      refine Run.cond rfl (fun hc2 => ?_) (fun hc2 => ?_)
      · try replace hc2 := of_decide_eq_true hc2
        refine Run.skip ?_
        refine Run.seq ?_
        refine Run.block ?_
        refine Run.seq ?_
        refine Run.ops ?_
        refine SOps.st rfl rfl (Yv.loadBs (i := 0) lay27 rfl rfl rfl rfl).yl ?_
        refine SOps.st rfl rfl (Yv.move rfl).yl ?_
        refine SOps.one rfl (One.callRow rfl callable68 (.cons rfl (.cons rfl (.nil))) (fun w' hw' => l19Greedy_spec ((Rd.arg hs) w' hw') (by assumption) (by omega)) (fun A1 c1 => ?_))
        refine SOps.st rfl rfl (Yv.move rfl).yl ?_
        refine SOps.st rfl rfl (Yv.extract rfl rfl).yl ?_
        refine SOps.st rfl rfl (Yv.extract rfl rfl).yl ?_
        refine SOps.st rfl rfl (Yv.assign rfl).yl ?_
        refine SOps.st rfl rfl (Yv.assign rfl).yl ?_
        refine SOps.nil ?_
        refine Run.seq ?_
        refine Run.quiet (by intro h; cases h) ?_
        refine QOps.st rfl rfl (Yv.move rfl).yl ?_
        refine QOps.st rfl rfl (Yv.move rfl).yl ?_
        refine' QOps.and [_, _, _, _] _ (.tmp 32) rfl rfl rfl rfl rfl rfl (fun hg2 => ?_) ?_
        rotate_left
        · try replace hg2 := of_decide_eq_true hg2
          refine QOps.st rfl rfl (Yv.move rfl).yl ?_
          refine QOps.st rfl rfl (Yv.lenS el22s rfl).yl ?_
          refine QOps.st rfl rfl (Yv.move rfl).yl ?_
          refine QOps.st rfl rfl (Yv.leq rfl rfl).yl ?_
          exact QOps.nil rfl
        refine QOps.nil ?_
        refine Run.cond rfl (fun hc3 => ?_) (fun hc3 => ?_)
        · try replace hc3 := of_decide_eq_true hc3
          refine Run.seq ?_
          refine Run.quiet (by intro h; cases h) ?_
          refine QOps.st rfl rfl (Yv.move rfl).yl ?_
          refine QOps.st rfl rfl (Yv.assign rfl).yl ?_
          refine QOps.st rfl rfl (Yv.assign rfl).yl ?_
          refine QOps.nil ?_
          refine Run.ret ?_
          refine retQ.of (.inr rfl) rfl (.tmp rfl (.tmp rfl .nil)) (fun w' hw' => ?_)
          refine ⟨?_, hw'.bel.below⟩
          unfold shortest; rw [if_pos hy, firstTo_some (k := j) (by omega) hc3 hall]; rfl
        · try replace hc3 := of_decide_eq_false hc3
          refine Run.skip ?_
          refine Run.quiet (by intro h; cases h) ?_
          refine QOps.st rfl rfl (Yv.move rfl).yl ?_
          refine QOps.st rfl rfl (Yv.succN rfl rfl (by omega)).yl ?_
          refine QOps.st rfl rfl (Yv.assign rfl).yl ?_
          refine QOps.nil ?_
          refine ⟨j + 1, ?_, ?_, (SubE.cons rfl (SubE.cons rfl (SubE.cons rfl (SubE.nil _)))), (List.Sublist.cons _ (List.Sublist.refl _))⟩
          · exact ⟨by omega, all_succ hall hc3⟩
          · first | omega | (dsimp only; omega)
      · try replace hc2 := of_decide_eq_false hc2
        refine Run.exit ?_
        refine Run.seq ?_
        refine Run.quiet (by intro h; cases h) ?_
        refine QOps.st rfl rfl (Yv.assign rfl).yl ?_
        refine QOps.st rfl rfl (Yv.assign rfl).yl ?_
        refine QOps.nil ?_
        refine Run.ret ?_
        refine retQ.of (.inr rfl) rfl (.tmp rfl (.tmp rfl .nil)) (fun w' hw' => ?_)
        refine ⟨?_, hw'.bel.below⟩
        unfold shortest; rw [if_pos hy, firstTo_none (fun i hi => hall i (by omega))]; rfl

theorem FnExactShortestChamber_spec {w : World} {A : Option Addr} {c : Nat} {p parts : Int} {l : List Int} (hs : Sl w 1 A l.length c (l.flatMap intC)) (hb : 8 * l.length ≤ 281474976710656) :
    Calls Try.prog 8 #[.agg #[.int .i64 p, .slice A l.length c], .int .i64 parts] w (RetB w (.bool true)) := by
  refine calls_of_run (vs := [_, _]) (L := [(0, _), (1, _)]) (n := 44) (F := []) (H := []) Try.func8 rfl rfl rfl rfl (HOk.start _) ?_
  refine Run.seq ?_
  refine Run.ops ?_
  refine SOps.one rfl (One.box (cs := [_, _]) rfl rfl rfl (fun b1 => ?_))
  refine SOps.st rfl rfl (Yv.assign rfl).yl ?_
  refine SOps.nil ?_
  refine Run.seq ?_
  refine Run.quiet (by intro h; cases h) ?_
  refine QOps.st rfl rfl (Yv.assign rfl).yl ?_
  refine QOps.nil ?_
  refine Run.seq ?_
  refine Run.quiet (by intro h; cases h) ?_
  refine QOps.st rfl rfl (Yv.loadBs (i := 0) lay24 rfl rfl rfl rfl).yl ?_
  refine QOps.st rfl rfl (Yv.move rfl).yl ?_
  refine QOps.st rfl rfl (Yl.call callable15 (.cons rfl (.cons rfl (.nil))) (fun w' hw' => szConvoy_spec (by omega) (by omega) (by omega))) ?_
  refine QOps.st rfl rfl (Yv.assign rfl).yl ?_
  refine QOps.nil ?_
  refine Run.seq ?_
  refine Run.seq ?_
  refine Run.quiet (by intro h; cases h) ?_
  refine QOps.st rfl rfl (Yv.move rfl).yl ?_
  refine QOps.st rfl rfl (Yv.lss rfl rfl).yl ?_
  refine QOps.nil ?_
  refine Run.cond rfl (fun hc1 => ?_) (fun hc1 => ?_)
  · try replace hc1 := of_decide_eq_true hc1
    refine Run.seq ?_
    refine Run.quiet (by intro h; cases h) ?_
    refine QOps.st rfl rfl (Yv.assign rfl).yl ?_
    refine QOps.nil ?_
    refine Run.ret ?_
    refine retQ.of (.inr rfl) rfl (.tmp rfl .nil) (fun w' hw' => ?_)
    refine ⟨?_, hw'.bel.below⟩
    exact rfl
  · try replace hc1 := of_decide_eq_false hc1
    have hn1 : l.length ≤ 1048576 := by split at hc1 <;> omega
    refine Run.skip ?_
    refine Run.seq ?_
    refine Run.ops ?_
    refine SOps.st rfl rfl (Yv.loadBs (i := 0) lay24 rfl rfl rfl rfl).yl ?_
    refine SOps.one rfl (One.callRow rfl callable17 (.cons rfl (.nil)) (fun w' hw' => toConvoy_spec ((Rd.arg hs) w' hw') (by omega)) (fun A1 c1 => ?_))
    refine SOps.st rfl rfl (Yv.move rfl).yl ?_
    refine SOps.st rfl rfl (Yl.call callable45 (.cons rfl (.cons rfl (.nil))) (fun w' hw' => sShortestChamber_spec ((Rd.row (i := 0) rfl) w' hw'))) ?_
    refine SOps.st rfl rfl (Yv.move rfl).yl ?_
    refine SOps.st rfl rfl (Yv.extract rfl rfl).yl ?_
    refine SOps.st rfl rfl (Yv.extract rfl rfl).yl ?_
    refine SOps.st rfl rfl (Yv.assign rfl).yl ?_
    refine SOps.st rfl rfl (Yv.assign rfl).yl ?_
    refine SOps.nil ?_
    refine Run.seq ?_
    refine Run.ops ?_
    refine SOps.st rfl rfl (Yv.loadBs (i := 1) lay24 rfl rfl rfl rfl).yl ?_
    refine SOps.one rfl (One.callRow rfl callable17 (.cons rfl (.nil)) (fun w' hw' => toConvoy_spec ((Rd.arg hs) w' hw') (by omega)) (fun A2 c2 => ?_))
    refine SOps.one rfl (One.alloc rfl zero27 (fun b2 => ?_))
    refine SOps.one rfl (One.store (i := 0) (off := 0) (vs := [_, _]) (cs' := [_, _]) (H' := [_, _, _, _]) lay27 rfl rfl rfl rfl rfl rfl rfl rfl rfl rfl ?_)
    refine SOps.nil ?_
    refine Run.seq ?_
    refine Run.quiet (by intro h; cases h) ?_
    refine QOps.st rfl rfl (Yv.loadBs (i := 0) lay27 rfl rfl rfl rfl).yl ?_
    refine QOps.st rfl rfl (Yv.move rfl).yl ?_
    refine QOps.st rfl rfl (Yl.call callable46 (.cons rfl (.cons rfl (.nil))) (fun w' hw' => ShortestChamber_spec ((Rd.row (i := 1) rfl) w' hw'))) ?_
    refine QOps.st rfl rfl (Yv.move rfl).yl ?_
    refine QOps.st rfl rfl (Yv.extract rfl rfl).yl ?_
    refine QOps.st rfl rfl (Yv.extract rfl rfl).yl ?_
    refine QOps.st rfl rfl (Yv.assign rfl).yl ?_
    refine QOps.st rfl rfl (Yv.assign rfl).yl ?_
    refine QOps.nil ?_
    refine Run.seq ?_
    refine Run.seq ?_
    refine Run.quiet (by intro h; cases h) ?_
    refine QOps.st rfl rfl (Yv.move rfl).yl ?_
    refine QOps.st rfl rfl (Yv.move rfl).yl ?_
    refine QOps.st rfl rfl (Yv.neI rfl rfl).yl ?_
    refine QOps.st rfl rfl (Yv.move rfl).yl ?_
    refine' QOps.or [_, _, _] _ (.tmp 37) rfl rfl rfl rfl rfl rfl (fun hg1 => ?_) ?_
    rotate_left
    · try replace hg1 := of_decide_eq_false hg1
      refine QOps.st rfl rfl (Yv.move rfl).yl ?_
      refine QOps.st rfl rfl (Yv.move rfl).yl ?_
      refine QOps.st rfl rfl (Yv.neB bool4 rfl rfl).yl ?_
      exact QOps.nil rfl
    refine QOps.nil ?_
    refine Run.cond rfl (fun hc2 => ?_) (fun hc2 => ?_)
    · exfalso
      simp at hc2
    · try replace hc2 := of_decide_eq_false hc2
      refine Run.skip ?_
      refine Run.seq ?_
      refine Run.seq ?_
      refine Run.draws (fun H => H) (m := 5) (listed := #[false, false, false, false, false]) (by kernel_rfl) rfl rfl ?_
      refine DOps.take (listed' := #[true, false, false, false, false]) 0 rfl (by kernel_rfl) rfl (List.Sublist.refl _) rfl rfl (Yv.loadBs (i := 0) lay27 rfl rfl rfl rfl) ?_
      refine DOps.take (listed' := #[true, true, false, false, false]) 1 rfl (by kernel_rfl) rfl (List.Sublist.refl _) rfl rfl (Yv.loadBs (i := 3) lay24 rfl rfl rfl rfl) ?_
      refine DOps.only (listed' := #[true, true, true, false, false]) 2 rfl (by kernel_rfl) rfl rfl ?_
      refine One.callRow rfl callable17 (.cons rfl (.nil)) (fun w' hw' => toConvoy_spec ((Rd.arg hs) w' hw') (by omega)) (fun A3 c3 => ?_)
      refine ⟨(List.Sublist.cons _ (List.Sublist.refl _)), ?_⟩
      refine DOps.only (listed' := #[true, true, true, true, false]) 3 rfl (by kernel_rfl) rfl rfl ?_
      refine One.st rfl (Yl.call callable19 (.cons rfl (.cons rfl (.nil))) (fun w' hw' => eqConvoy_spec ((Rd.row (i := 2) rfl) w' hw') ((Rd.row (i := 0) rfl) w' hw'))) ?_
      refine ⟨(List.Sublist.cons _ (List.Sublist.refl _)), ?_⟩
      refine DOps.take (listed' := #[true, true, true, true, true]) 4 rfl (by kernel_rfl) rfl (List.Sublist.cons _ (List.Sublist.refl _)) rfl rfl (Yv.not rfl) ?_
      refine DOps.done (by kernel_rfl) ?_
      refine Run.cond rfl (fun hc3 => ?_) (fun hc3 => ?_)
      · exfalso
        simp at hc3
      · try replace hc3 := of_decide_eq_false hc3
        refine Run.skip ?_
        refine Run.seq ?_
        refine Run.quiet (by intro h; cases h) ?_
        refine QOps.st rfl rfl (Yv.assign rfl).yl ?_
        refine QOps.nil ?_
        refine Run.ret ?_
        refine retQ.of (.inr rfl) rfl (.tmp rfl .nil) (fun w' hw' => ?_)
        refine ⟨?_, hw'.bel.below⟩
        exact rfl
end Go.Proofs.Ytfpglglolhlegaa
