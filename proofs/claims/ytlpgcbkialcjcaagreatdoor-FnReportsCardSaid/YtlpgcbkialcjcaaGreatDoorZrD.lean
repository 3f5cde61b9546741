/- Reports: a text's parts, as the reference cuts them. Conditions: none. -/
import Derived.Test.YtlpgcbkialcjcaaGreatDoorZrB
import Derived.Test.YtlpgcbkialcjcaaGreatDoorGl
namespace Go.Proofs.YtlpgcbkialcjcaaGreatDoor
open Go.RowKit
set_option maxRecDepth 100000
/-- Where the part under way begins, and the parts before it. -/
def partsTo (l : List UInt8) (b : UInt8) : Nat → Nat × List (List UInt8)
  | 0 => (0, [])
  | k + 1 => if nth l k = b then (k + 1, (partsTo l b k).2 ++ [(l.drop (partsTo l b k).1).take (k - (partsTo l b k).1)]) else partsTo l b k
theorem partsTo_le {l : List UInt8} {b : UInt8} : ∀ {k : Nat}, (partsTo l b k).1 ≤ k ∧ (partsTo l b k).2.length ≤ k
  | 0 => by simp [partsTo]
  | k + 1 => by
    have ih := partsTo_le (l := l) (b := b) (k := k)
    rw [partsTo]
    split
    · simp; omega
    · omega
def partsOf (l : List UInt8) (b : UInt8) : List (List UInt8) := (partsTo l b l.length).2 ++ [l.drop (partsTo l b l.length).1]
theorem byte_eq {a b : UInt8} : ((a.toNat : Int) = (b.toNat : Int)) ↔ a = b := by
  constructor
  · intro h
    exact UInt8.toNat_inj.1 (by omega)
  · intro h
    rw [h]
theorem l1Split_spec {w : World} {l : List UInt8} {b : UInt8} (hl : l.length ≤ 1048576) : Calls Tryz.prog 39 #[strV l, .int .u8 (b.toNat : Int)] w (RetRow w 9 1 (partsOf l b).length ((partsOf l b).flatMap strC) (fun v => v)) := by
  refine calls_of_run (vs := [_, _]) (L := [(0, _), (1, _)]) (n := 35) (F := []) (H := []) Tryz.func39 rfl rfl rfl rfl (HOk.start _) ?_
  refine Run.seq ?_
  refine Run.quiet (by intro h; cases h) ?_
  refine QOps.st rfl rfl (Yv.assign rfl).yl ?_
  refine QOps.nil ?_
  refine Run.seq ?_
  refine Run.ops ?_
  refine SOps.one rfl (One.buildSliceG (pv := []) (cs := []) (fun _ => []) rfl el50 .nil rfl rfl (by kernel_rfl) rfl rfl (fun b1 => ?_))
  refine SOps.st rfl rfl (Yv.assign rfl).yl ?_
  refine SOps.nil ?_
  refine Run.seq ?_
  refine Run.quiet (by intro h; cases h) ?_
  refine QOps.st rfl rfl (Yv.assign rfl).yl ?_
  refine QOps.nil ?_
  refine Run.seq ?_
  refine Run.seq ?_
  refine Run.quiet (by intro h; cases h) ?_
  refine QOps.st rfl rfl (Yv.assign rfl).yl ?_
  refine QOps.nil ?_
  refine Run.block ?_
  refine Run.loop (S := Nat × Nat × List (List UInt8) × Option Addr × Nat) (fun s => match s with | (k, fr, o, A2, c2) => k ≤ l.length ∧ fr = (partsTo l b k).1 ∧ o = (partsTo l b k).2) (fun s => match s with | (k, fr, o, A2, c2) => [(0, strV l), (1, .int .u8 (b.toNat : Int)), (5, .slice A2 o.length c2), (6, .int .i64 (fr : Int)), (7, .int .i64 (k : Int))]) (fun s => match s with | (k, fr, o, A2, c2) => [.row A2 c2 9 1 o.length (o.flatMap strC)]) (fun s => match s with | (k, fr, o, A2, c2) => l.length - k) (0, 0, [], some ⟨b1, 0, none⟩, 0) ?_ (SubE.cons rfl (SubE.cons rfl (SubE.cons rfl (SubE.cons rfl (SubE.cons rfl (SubE.nil _)))))) (List.Sublist.refl _) ?_
  · exact ⟨Nat.zero_le _, rfl, rfl⟩
  · rintro ⟨k, fr, o, A2, c2⟩ ⟨hk, hfr, ho⟩
    show Run _ _ _ _ _ [(0, strV l), (1, .int .u8 (b.toNat : Int)), (5, .slice A2 o.length c2), (6, .int .i64 (fr : Int)), (7, .int .i64 (k : Int))] [.row A2 c2 9 1 o.length (o.flatMap strC)] _
    have hpl := partsTo_le (l := l) (b := b) (k := k)
    rw [← hfr, ← ho] at hpl
    refine Run.seq ?_
    refine Run.seq ?_
    refine Run.quiet (by intro h; cases h) ?_
    refine QOps.st rfl rfl (Yv.move rfl).yl ?_
    refine QOps.st rfl rfl (Yv.move rfl).yl ?_
    refine QOps.st rfl rfl (Yv.strLen (a := l) str9 rfl).yl ?_
    refine QOps.st rfl rfl (Yv.lss rfl rfl).yl ?_
    refine QOps.nil ?_
    refine Run.cond rfl (fun hc1 => ?_) (fun hc1 => ?_)
    · try replace hc1 := of_decide_eq_true hc1
      refine Run.skip ?_
      refine Run.seq ?_
      refine Run.block ?_
      refine Run.seq ?_
      refine Run.quiet (by intro h; cases h) ?_
      refine QOps.st rfl rfl (Yv.move rfl).yl ?_
      refine QOps.st rfl rfl (Yv.move rfl).yl ?_
      refine QOps.st rfl rfl (Yv.strIdx k str9 rfl rfl rfl (by omega)).yl ?_
      refine QOps.st rfl rfl (Yv.move rfl).yl ?_
      refine QOps.st rfl rfl (Yv.eqI rfl rfl).yl ?_
      refine QOps.nil ?_
      refine Run.cond rfl (fun hc2 => ?_) (fun hc2 => ?_)
      · try replace hc2 := of_decide_eq_true hc2
        have hcb : nth l k = b := byte_eq.1 hc2
        refine Run.seq ?_
        refine Run.ops ?_
        refine SOps.st rfl rfl (Yv.move rfl).yl ?_
        refine SOps.st rfl rfl (Yv.move rfl).yl ?_
        refine SOps.st rfl rfl (Yv.move rfl).yl ?_
        refine SOps.st rfl rfl (Yv.move rfl).yl ?_
        refine SOps.st rfl rfl (Yv.strCut (a := l) fr k str9 rfl rfl rfl (by first | rfl | omega) (by first | rfl | omega) (by omega) (by omega)).yl ?_
        refine SOps.one rfl (One.buildSliceG (pv := [(0, _)]) (cs := [_]) (fun l => match l with | [a0_0] => [a0_0] | _ => []) rfl el50 (.cons rfl (.nil)) rfl rfl (by kernel_rfl) rfl rfl (fun b2 => ?_))
        refine SOps.one rfl (One.append (enc := strC) (l := o) (l2 := [(l.drop fr).take (k - fr)]) (m' := (o ++ [(l.drop fr).take (k - fr)]).length) (i := 1) (H' := fun A c => [_, _]) rfl el50 zero9 rfl (by decide) rfl rfl rfl (Rd.row (i := 0) rfl) (fun _ => rfl) (by simp) (by simp; omega) (by simp; omega) (fun _ _ => rfl) (fun A1 c1 => ?_))
        refine SOps.st rfl rfl (Yv.assign rfl).yl ?_
        refine SOps.nil ?_
        refine Run.quiet (by intro h; cases h) ?_
        refine QOps.st rfl rfl (Yv.move rfl).yl ?_
        refine QOps.st rfl rfl (Yv.succN rfl rfl (by omega)).yl ?_
        refine QOps.st rfl rfl (Yv.assign rfl).yl ?_
        refine QOps.nil ?_
        refine Run.quiet (by intro h; cases h) ?_
        refine QOps.st rfl rfl (Yv.move rfl).yl ?_
        refine QOps.st rfl rfl (Yv.succN rfl rfl (by omega)).yl ?_
        refine QOps.st rfl rfl (Yv.assign rfl).yl ?_
        refine QOps.nil ?_
        refine ⟨(k + 1, k + 1, _, _, _), ?_, ?_, (SubE.cons rfl (SubE.cons rfl (SubE.cons rfl (SubE.cons rfl (SubE.cons rfl (SubE.nil _)))))), (List.Sublist.cons _ (List.Sublist.refl _))⟩
        · exact ⟨by omega, by rw [partsTo, if_pos hcb], by rw [partsTo, if_pos hcb, ← hfr, ← ho]⟩
        · first | omega | (dsimp only; omega)
      · try replace hc2 := of_decide_eq_false hc2
        have hcb : ¬ nth l k = b := fun h => hc2 (byte_eq.2 h)
        refine Run.skip ?_
        refine Run.quiet (by intro h; cases h) ?_
        refine QOps.st rfl rfl (Yv.move rfl).yl ?_
        refine QOps.st rfl rfl (Yv.succN rfl rfl (by omega)).yl ?_
        refine QOps.st rfl rfl (Yv.assign rfl).yl ?_
        refine QOps.nil ?_
        refine ⟨(k + 1, fr, o, A2, c2), ?_, ?_, (SubE.cons rfl (SubE.cons rfl (SubE.cons rfl (SubE.cons rfl (SubE.cons rfl (SubE.nil _)))))), (List.Sublist.refl _)⟩
        · exact ⟨by omega, by rw [partsTo, if_neg hcb, hfr], by rw [partsTo, if_neg hcb, ho]⟩
        · first | omega | (dsimp only; omega)
    · try replace hc1 := of_decide_eq_false hc1
      refine Run.exit ?_
      refine Run.seq ?_
      refine Run.ops ?_
      refine SOps.st rfl rfl (Yv.move rfl).yl ?_
      refine SOps.st rfl rfl (Yv.move rfl).yl ?_
      refine SOps.st rfl rfl (Yv.move rfl).yl ?_
      refine SOps.st rfl rfl (Yv.strFrom (a := l) fr str9 rfl rfl (by first | rfl | omega) (by omega)).yl ?_
      refine SOps.one rfl (One.buildSliceG (pv := [(0, _)]) (cs := [_]) (fun l => match l with | [a0_0] => [a0_0] | _ => []) rfl el50 (.cons rfl (.nil)) rfl rfl (by kernel_rfl) rfl rfl (fun b3 => ?_))
      refine SOps.one rfl (One.append (enc := strC) (l := o) (l2 := [l.drop fr]) (m' := (o ++ [l.drop fr]).length) (i := 1) (H' := fun A c => [_, _]) rfl el50 zero9 rfl (by decide) rfl rfl rfl (Rd.row (i := 0) rfl) (fun _ => rfl) (by simp) (by simp; omega) (by simp; omega) (fun _ _ => rfl) (fun A2 c2 => ?_))
      refine SOps.st rfl rfl (Yv.assign rfl).yl ?_
      refine SOps.nil ?_
      refine Run.ret ?_
      obtain rfl : k = l.length := by omega
      refine retQ.of (.inr rfl) rfl (.tmp rfl .nil) (fun w' hw' => ?_)
      unfold partsOf; rw [← hfr, ← ho]; exact ⟨_, _, rfl, hw'.bel.below, hw'.ent _ (List.mem_of_getElem? (i := 1) rfl), fun g hg => (hw'.own _ (List.mem_of_getElem? (i := 1) rfl) g hg).elim id (by simp)⟩
end Go.Proofs.YtlpgcbkialcjcaaGreatDoor
