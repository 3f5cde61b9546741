/- Notices: their texts are what the reference says; the law. Conditions: none. -/
import Derived.Test.YtjabeiolgghfdaaGreatDoorZnA
namespace Go.Proofs.YtjabeiolgghfdaaGreatDoor
open Go.RowKit
set_option maxRecDepth 100000
theorem retS_eq {a b : List UInt8} (h : a = b) : Ending.returned (single [strV a]) = .returned (strV b) := by rw [h]; rfl
def kindT (n : Notice) : List UInt8 := if n.kind = 1 then [99, 108, 111, 115, 101, 100] else if n.kind = 2 then [100, 101, 112, 116, 104, 32] ++ dec n.value ++ [32, 99, 109] else [115, 112, 101, 101, 100, 32] ++ dec n.value ++ [32, 107, 109, 47, 104]
def noteT (n : Notice) : List UInt8 := [110, 111, 116, 105, 99, 101, 32] ++ dec n.id ++ [58, 32] ++ kindT n ++ [32, 102, 114, 111, 109, 32, 107, 109, 32] ++ dec n.start ++ [32, 116, 111, 32, 107, 109, 32] ++ dec n.stop ++ [32, 111, 110, 32, 100, 97, 121, 115, 32] ++ dec n.first ++ [32, 116, 111, 32] ++ dec n.last
def textOf (n : Notice) : List UInt8 × Bool := if noticeOk n = true then (noteT n, true) else ([], false)
theorem l1Num_spec {w : World} {n : Int} (h0 : 0 ≤ n) (h1 : n ≤ 999999) : Calls Tryz.prog 57 #[.int .i64 n] w (RetB w (strV (dec n))) := by
  have h := l1Num_nat (w := w) (n := n.toNat) (by omega)
  rwa [show ((n.toNat : Nat) : Int) = n by omega] at h
theorem noticeText_spec {w : World} {n : Notice} (htab : Tab10 w) (hok : noticeOk n = true) : Calls Tryz.prog 23 #[.agg n.enc.toArray] w (RetB w (strV (noteT n))) := by
  obtain ⟨⟨ha1, ha2⟩, ⟨hb1, hb2⟩, ⟨hd1, hd2⟩, ⟨he1, he2⟩, ⟨hf1, hf2⟩, ⟨hg1, hg2⟩⟩ := note_bnd hok
  have l1 := dec_len ha1 (by omega)
  have l2 := dec_len hb1 (by omega)
  have l3 := dec_len hd1 (by omega)
  have l4 := dec_len he1 (by omega)
  have l5 := dec_len hf1 (by omega)
  have l6 := dec_len hg1 (by omega)
  refine calls_of_run (vs := [_]) (L := [(0, _)]) (n := 52) (F := []) (H := []) Tryz.func23 rfl rfl rfl rfl (HOk.start _) ?_
  refine Run.seq ?_
  refine Run.ops ?_
  refine SOps.one rfl (One.box (cs := [_, _, _, _, _, _, _]) rfl rfl rfl (fun b1 => ?_))
  refine SOps.st rfl rfl (Yv.assign rfl).yl ?_
  refine SOps.nil ?_
  refine Run.seq ?_
  refine Run.quiet (by intro h; cases h) ?_
  refine QOps.st rfl rfl (Yv.fieldAddr fld25_0 rfl).yl ?_
  refine QOps.st rfl rfl (Yv.loadB (i := 0) lay3 rfl rfl rfl rfl).yl ?_
  refine QOps.st rfl rfl (Yl.call callable54 (.cons rfl (.nil)) (fun w' hw' => itoa_spec (tab_at htab hw') (by omega) (by omega))) ?_
  refine QOps.st rfl rfl (Yv.strAdd (a := [110, 111, 116, 105, 99, 101, 32]) (b := (dec n.id)) rfl rfl (by simp only [List.length_append, List.length_cons, List.length_nil]; omega)).yl ?_
  refine QOps.st rfl rfl (Yv.strAdd (a := ([110, 111, 116, 105, 99, 101, 32] ++ (dec n.id))) (b := [58, 32]) rfl rfl (by simp only [List.length_append, List.length_cons, List.length_nil]; omega)).yl ?_
  refine QOps.st rfl rfl (Yv.assign rfl).yl ?_
  refine QOps.nil ?_
  refine Run.seq ?_
  refine Run.seq ?_
  refine Run.quiet (by intro h; cases h) ?_
  refine QOps.st rfl rfl (Yv.fieldAddr fld25_1 rfl).yl ?_
  refine QOps.st rfl rfl (Yv.loadB (i := 0) lay3 rfl rfl rfl rfl).yl ?_
  refine QOps.nil ?_
  refine Run.block ?_
  refine Run.seq ?_
  refine Run.quiet (by intro h; cases h) ?_
  refine QOps.st rfl rfl (Yv.eqI rfl rfl).yl ?_
  refine QOps.st rfl rfl (Yv.assign rfl).yl ?_
  refine QOps.nil ?_
  refine Run.cond rfl (fun hc1 => ?_) (fun hc1 => ?_)
  · try replace hc1 := of_decide_eq_true hc1
    refine Run.quiet (by intro h; cases h) ?_
    refine QOps.st rfl rfl (Yv.move rfl).yl ?_
    refine QOps.st rfl rfl (Yv.strAdd (a := (([110, 111, 116, 105, 99, 101, 32] ++ (dec n.id)) ++ [58, 32])) (b := [99, 108, 111, 115, 101, 100]) rfl rfl (by simp only [List.length_append, List.length_cons, List.length_nil]; omega)).yl ?_
    refine QOps.st rfl rfl (Yv.assign rfl).yl ?_
    refine QOps.nil ?_
    refine Run.seq ?_
    refine Run.quiet (fun _ => ⟨by kernel_rfl, by kernel_rfl⟩) ?_
    refine QOps.st rfl rfl (Yv.move rfl).yl ?_
    refine QOps.st rfl rfl (Yv.strAdd (a := ((([110, 111, 116, 105, 99, 101, 32] ++ (dec n.id)) ++ [58, 32]) ++ [99, 108, 111, 115, 101, 100])) (b := [32, 102, 114, 111, 109, 32, 107, 109, 32]) rfl rfl (by simp only [List.length_append, List.length_cons, List.length_nil]; omega)).yl ?_
    refine QOps.st rfl rfl (Yv.fieldAddr fld25_2 rfl).yl ?_
    refine QOps.st rfl rfl (Yv.loadB (i := 0) lay3 rfl rfl rfl rfl).yl ?_
    refine QOps.st rfl rfl (Yl.call callable54 (.cons rfl (.nil)) (fun w' hw' => itoa_spec (tab_at htab hw') (by omega) (by omega))) ?_
    refine QOps.st rfl rfl (Yv.strAdd (a := (((([110, 111, 116, 105, 99, 101, 32] ++ (dec n.id)) ++ [58, 32]) ++ [99, 108, 111, 115, 101, 100]) ++ [32, 102, 114, 111, 109, 32, 107, 109, 32])) (b := (dec n.start)) rfl rfl (by simp only [List.length_append, List.length_cons, List.length_nil]; omega)).yl ?_
    refine QOps.st rfl rfl (Yv.strAdd (a := ((((([110, 111, 116, 105, 99, 101, 32] ++ (dec n.id)) ++ [58, 32]) ++ [99, 108, 111, 115, 101, 100]) ++ [32, 102, 114, 111, 109, 32, 107, 109, 32]) ++ (dec n.start))) (b := [32, 116, 111, 32, 107, 109, 32]) rfl rfl (by simp only [List.length_append, List.length_cons, List.length_nil]; omega)).yl ?_
    refine QOps.st rfl rfl (Yv.fieldAddr fld25_3 rfl).yl ?_
    refine QOps.st rfl rfl (Yv.loadB (i := 0) lay3 rfl rfl rfl rfl).yl ?_
    refine QOps.st rfl rfl (Yl.call callable54 (.cons rfl (.nil)) (fun w' hw' => itoa_spec (tab_at htab hw') (by omega) (by omega))) ?_
    refine QOps.st rfl rfl (Yv.strAdd (a := (((((([110, 111, 116, 105, 99, 101, 32] ++ (dec n.id)) ++ [58, 32]) ++ [99, 108, 111, 115, 101, 100]) ++ [32, 102, 114, 111, 109, 32, 107, 109, 32]) ++ (dec n.start)) ++ [32, 116, 111, 32, 107, 109, 32])) (b := (dec n.stop)) rfl rfl (by simp only [List.length_append, List.length_cons, List.length_nil]; omega)).yl ?_
    refine QOps.st rfl rfl (Yv.strAdd (a := ((((((([110, 111, 116, 105, 99, 101, 32] ++ (dec n.id)) ++ [58, 32]) ++ [99, 108, 111, 115, 101, 100]) ++ [32, 102, 114, 111, 109, 32, 107, 109, 32]) ++ (dec n.start)) ++ [32, 116, 111, 32, 107, 109, 32]) ++ (dec n.stop))) (b := [32, 111, 110, 32, 100, 97, 121, 115, 32]) rfl rfl (by simp only [List.length_append, List.length_cons, List.length_nil]; omega)).yl ?_
    refine QOps.st rfl rfl (Yv.fieldAddr fld25_4 rfl).yl ?_
    refine QOps.st rfl rfl (Yv.loadB (i := 0) lay3 rfl rfl rfl rfl).yl ?_
    refine QOps.st rfl rfl (Yl.call callable54 (.cons rfl (.nil)) (fun w' hw' => itoa_spec (tab_at htab hw') (by omega) (by omega))) ?_
    refine QOps.st rfl rfl (Yv.strAdd (a := (((((((([110, 111, 116, 105, 99, 101, 32] ++ (dec n.id)) ++ [58, 32]) ++ [99, 108, 111, 115, 101, 100]) ++ [32, 102, 114, 111, 109, 32, 107, 109, 32]) ++ (dec n.start)) ++ [32, 116, 111, 32, 107, 109, 32]) ++ (dec n.stop)) ++ [32, 111, 110, 32, 100, 97, 121, 115, 32])) (b := (dec n.first)) rfl rfl (by simp only [List.length_append, List.length_cons, List.length_nil]; omega)).yl ?_
    refine QOps.st rfl rfl (Yv.strAdd (a := ((((((((([110, 111, 116, 105, 99, 101, 32] ++ (dec n.id)) ++ [58, 32]) ++ [99, 108, 111, 115, 101, 100]) ++ [32, 102, 114, 111, 109, 32, 107, 109, 32]) ++ (dec n.start)) ++ [32, 116, 111, 32, 107, 109, 32]) ++ (dec n.stop)) ++ [32, 111, 110, 32, 100, 97, 121, 115, 32]) ++ (dec n.first))) (b := [32, 116, 111, 32]) rfl rfl (by simp only [List.length_append, List.length_cons, List.length_nil]; omega)).yl ?_
    refine QOps.st rfl rfl (Yv.fieldAddr fld25_5 rfl).yl ?_
    refine QOps.st rfl rfl (Yv.loadB (i := 0) lay3 rfl rfl rfl rfl).yl ?_
    refine QOps.st rfl rfl (Yl.call callable54 (.cons rfl (.nil)) (fun w' hw' => itoa_spec (tab_at htab hw') (by omega) (by omega))) ?_
    refine QOps.st rfl rfl (Yv.strAdd (a := (((((((((([110, 111, 116, 105, 99, 101, 32] ++ (dec n.id)) ++ [58, 32]) ++ [99, 108, 111, 115, 101, 100]) ++ [32, 102, 114, 111, 109, 32, 107, 109, 32]) ++ (dec n.start)) ++ [32, 116, 111, 32, 107, 109, 32]) ++ (dec n.stop)) ++ [32, 111, 110, 32, 100, 97, 121, 115, 32]) ++ (dec n.first)) ++ [32, 116, 111, 32])) (b := (dec n.last)) rfl rfl (by simp only [List.length_append, List.length_cons, List.length_nil]; omega)).yl ?_
    refine QOps.st rfl rfl (Yv.assign rfl).yl ?_
    refine QOps.nil ?_
    refine Run.ret ?_
    refine retQ.of (.inr rfl) rfl (.tmp rfl .nil) (fun w' hw' => ?_)
    refine ⟨?_, hw'.bel.below⟩
    refine retS_eq ?_
    unfold noteT kindT
    rw [if_pos hc1] <;> simp only [List.append_assoc, List.cons_append, List.nil_append]
  · try replace hc1 := of_decide_eq_false hc1
    refine Run.seq ?_
    refine Run.quiet (by intro h; cases h) ?_
    refine QOps.st rfl rfl (Yv.eqI rfl rfl).yl ?_
    refine QOps.st rfl rfl (Yv.assign rfl).yl ?_
    refine QOps.nil ?_
    refine Run.cond rfl (fun hc2 => ?_) (fun hc2 => ?_)
    · try replace hc2 := of_decide_eq_true hc2
      refine Run.quiet (by intro h; cases h) ?_
      refine QOps.st rfl rfl (Yv.move rfl).yl ?_
      refine QOps.st rfl rfl (Yv.fieldAddr fld25_6 rfl).yl ?_
      refine QOps.st rfl rfl (Yv.loadB (i := 0) lay3 rfl rfl rfl rfl).yl ?_
      refine QOps.st rfl rfl (Yl.call callable54 (.cons rfl (.nil)) (fun w' hw' => itoa_spec (tab_at htab hw') (by omega) (by omega))) ?_
      refine QOps.st rfl rfl (Yv.strAdd (a := [100, 101, 112, 116, 104, 32]) (b := (dec n.value)) rfl rfl (by simp only [List.length_append, List.length_cons, List.length_nil]; omega)).yl ?_
      refine QOps.st rfl rfl (Yv.strAdd (a := ([100, 101, 112, 116, 104, 32] ++ (dec n.value))) (b := [32, 99, 109]) rfl rfl (by simp only [List.length_append, List.length_cons, List.length_nil]; omega)).yl ?_
      refine QOps.st rfl rfl (Yv.strAdd (a := (([110, 111, 116, 105, 99, 101, 32] ++ (dec n.id)) ++ [58, 32])) (b := (([100, 101, 112, 116, 104, 32] ++ (dec n.value)) ++ [32, 99, 109])) rfl rfl (by simp only [List.length_append, List.length_cons, List.length_nil]; omega)).yl ?_
      refine QOps.st rfl rfl (Yv.assign rfl).yl ?_
      refine QOps.nil ?_
      refine Run.seq ?_
      refine Run.quiet (fun _ => ⟨by kernel_rfl, by kernel_rfl⟩) ?_
      refine QOps.st rfl rfl (Yv.move rfl).yl ?_
      refine QOps.st rfl rfl (Yv.strAdd (a := ((([110, 111, 116, 105, 99, 101, 32] ++ (dec n.id)) ++ [58, 32]) ++ (([100, 101, 112, 116, 104, 32] ++ (dec n.value)) ++ [32, 99, 109]))) (b := [32, 102, 114, 111, 109, 32, 107, 109, 32]) rfl rfl (by simp only [List.length_append, List.length_cons, List.length_nil]; omega)).yl ?_
      refine QOps.st rfl rfl (Yv.fieldAddr fld25_2 rfl).yl ?_
      refine QOps.st rfl rfl (Yv.loadB (i := 0) lay3 rfl rfl rfl rfl).yl ?_
      refine QOps.st rfl rfl (Yl.call callable54 (.cons rfl (.nil)) (fun w' hw' => itoa_spec (tab_at htab hw') (by omega) (by omega))) ?_
      refine QOps.st rfl rfl (Yv.strAdd (a := (((([110, 111, 116, 105, 99, 101, 32] ++ (dec n.id)) ++ [58, 32]) ++ (([100, 101, 112, 116, 104, 32] ++ (dec n.value)) ++ [32, 99, 109])) ++ [32, 102, 114, 111, 109, 32, 107, 109, 32])) (b := (dec n.start)) rfl rfl (by simp only [List.length_append, List.length_cons, List.length_nil]; omega)).yl ?_
      refine QOps.st rfl rfl (Yv.strAdd (a := ((((([110, 111, 116, 105, 99, 101, 32] ++ (dec n.id)) ++ [58, 32]) ++ (([100, 101, 112, 116, 104, 32] ++ (dec n.value)) ++ [32, 99, 109])) ++ [32, 102, 114, 111, 109, 32, 107, 109, 32]) ++ (dec n.start))) (b := [32, 116, 111, 32, 107, 109, 32]) rfl rfl (by simp only [List.length_append, List.length_cons, List.length_nil]; omega)).yl ?_
      refine QOps.st rfl rfl (Yv.fieldAddr fld25_3 rfl).yl ?_
      refine QOps.st rfl rfl (Yv.loadB (i := 0) lay3 rfl rfl rfl rfl).yl ?_
      refine QOps.st rfl rfl (Yl.call callable54 (.cons rfl (.nil)) (fun w' hw' => itoa_spec (tab_at htab hw') (by omega) (by omega))) ?_
      refine QOps.st rfl rfl (Yv.strAdd (a := (((((([110, 111, 116, 105, 99, 101, 32] ++ (dec n.id)) ++ [58, 32]) ++ (([100, 101, 112, 116, 104, 32] ++ (dec n.value)) ++ [32, 99, 109])) ++ [32, 102, 114, 111, 109, 32, 107, 109, 32]) ++ (dec n.start)) ++ [32, 116, 111, 32, 107, 109, 32])) (b := (dec n.stop)) rfl rfl (by simp only [List.length_append, List.length_cons, List.length_nil]; omega)).yl ?_
      refine QOps.st rfl rfl (Yv.strAdd (a := ((((((([110, 111, 116, 105, 99, 101, 32] ++ (dec n.id)) ++ [58, 32]) ++ (([100, 101, 112, 116, 104, 32] ++ (dec n.value)) ++ [32, 99, 109])) ++ [32, 102, 114, 111, 109, 32, 107, 109, 32]) ++ (dec n.start)) ++ [32, 116, 111, 32, 107, 109, 32]) ++ (dec n.stop))) (b := [32, 111, 110, 32, 100, 97, 121, 115, 32]) rfl rfl (by simp only [List.length_append, List.length_cons, List.length_nil]; omega)).yl ?_
      refine QOps.st rfl rfl (Yv.fieldAddr fld25_4 rfl).yl ?_
      refine QOps.st rfl rfl (Yv.loadB (i := 0) lay3 rfl rfl rfl rfl).yl ?_
      refine QOps.st rfl rfl (Yl.call callable54 (.cons rfl (.nil)) (fun w' hw' => itoa_spec (tab_at htab hw') (by omega) (by omega))) ?_
      refine QOps.st rfl rfl (Yv.strAdd (a := (((((((([110, 111, 116, 105, 99, 101, 32] ++ (dec n.id)) ++ [58, 32]) ++ (([100, 101, 112, 116, 104, 32] ++ (dec n.value)) ++ [32, 99, 109])) ++ [32, 102, 114, 111, 109, 32, 107, 109, 32]) ++ (dec n.start)) ++ [32, 116, 111, 32, 107, 109, 32]) ++ (dec n.stop)) ++ [32, 111, 110, 32, 100, 97, 121, 115, 32])) (b := (dec n.first)) rfl rfl (by simp only [List.length_append, List.length_cons, List.length_nil]; omega)).yl ?_
      refine QOps.st rfl rfl (Yv.strAdd (a := ((((((((([110, 111, 116, 105, 99, 101, 32] ++ (dec n.id)) ++ [58, 32]) ++ (([100, 101, 112, 116, 104, 32] ++ (dec n.value)) ++ [32, 99, 109])) ++ [32, 102, 114, 111, 109, 32, 107, 109, 32]) ++ (dec n.start)) ++ [32, 116, 111, 32, 107, 109, 32]) ++ (dec n.stop)) ++ [32, 111, 110, 32, 100, 97, 121, 115, 32]) ++ (dec n.first))) (b := [32, 116, 111, 32]) rfl rfl (by simp only [List.length_append, List.length_cons, List.length_nil]; omega)).yl ?_
      refine QOps.st rfl rfl (Yv.fieldAddr fld25_5 rfl).yl ?_
      refine QOps.st rfl rfl (Yv.loadB (i := 0) lay3 rfl rfl rfl rfl).yl ?_
      refine QOps.st rfl rfl (Yl.call callable54 (.cons rfl (.nil)) (fun w' hw' => itoa_spec (tab_at htab hw') (by omega) (by omega))) ?_
      refine QOps.st rfl rfl (Yv.strAdd (a := (((((((((([110, 111, 116, 105, 99, 101, 32] ++ (dec n.id)) ++ [58, 32]) ++ (([100, 101, 112, 116, 104, 32] ++ (dec n.value)) ++ [32, 99, 109])) ++ [32, 102, 114, 111, 109, 32, 107, 109, 32]) ++ (dec n.start)) ++ [32, 116, 111, 32, 107, 109, 32]) ++ (dec n.stop)) ++ [32, 111, 110, 32, 100, 97, 121, 115, 32]) ++ (dec n.first)) ++ [32, 116, 111, 32])) (b := (dec n.last)) rfl rfl (by simp only [List.length_append, List.length_cons, List.length_nil]; omega)).yl ?_
      refine QOps.st rfl rfl (Yv.assign rfl).yl ?_
      refine QOps.nil ?_
      refine Run.ret ?_
      refine retQ.of (.inr rfl) rfl (.tmp rfl .nil) (fun w' hw' => ?_)
      refine ⟨?_, hw'.bel.below⟩
      refine retS_eq ?_
      unfold noteT kindT
      rw [if_neg hc1, if_pos hc2] <;> simp only [List.append_assoc, List.cons_append, List.nil_append]
    · try replace hc2 := of_decide_eq_false hc2
      refine Run.quiet (by intro h; cases h) ?_
      refine QOps.st rfl rfl (Yv.move rfl).yl ?_
      refine QOps.st rfl rfl (Yv.fieldAddr fld25_6 rfl).yl ?_
      refine QOps.st rfl rfl (Yv.loadB (i := 0) lay3 rfl rfl rfl rfl).yl ?_
      refine QOps.st rfl rfl (Yl.call callable54 (.cons rfl (.nil)) (fun w' hw' => itoa_spec (tab_at htab hw') (by omega) (by omega))) ?_
      refine QOps.st rfl rfl (Yv.strAdd (a := [115, 112, 101, 101, 100, 32]) (b := (dec n.value)) rfl rfl (by simp only [List.length_append, List.length_cons, List.length_nil]; omega)).yl ?_
      refine QOps.st rfl rfl (Yv.strAdd (a := ([115, 112, 101, 101, 100, 32] ++ (dec n.value))) (b := [32, 107, 109, 47, 104]) rfl rfl (by simp only [List.length_append, List.length_cons, List.length_nil]; omega)).yl ?_
      refine QOps.st rfl rfl (Yv.strAdd (a := (([110, 111, 116, 105, 99, 101, 32] ++ (dec n.id)) ++ [58, 32])) (b := (([115, 112, 101, 101, 100, 32] ++ (dec n.value)) ++ [32, 107, 109, 47, 104])) rfl rfl (by simp only [List.length_append, List.length_cons, List.length_nil]; omega)).yl ?_
      refine QOps.st rfl rfl (Yv.assign rfl).yl ?_
      refine QOps.nil ?_
      refine Run.seq ?_
      refine Run.quiet (fun _ => ⟨by kernel_rfl, by kernel_rfl⟩) ?_
      refine QOps.st rfl rfl (Yv.move rfl).yl ?_
      refine QOps.st rfl rfl (Yv.strAdd (a := ((([110, 111, 116, 105, 99, 101, 32] ++ (dec n.id)) ++ [58, 32]) ++ (([115, 112, 101, 101, 100, 32] ++ (dec n.value)) ++ [32, 107, 109, 47, 104]))) (b := [32, 102, 114, 111, 109, 32, 107, 109, 32]) rfl rfl (by simp only [List.length_append, List.length_cons, List.length_nil]; omega)).yl ?_
      refine QOps.st rfl rfl (Yv.fieldAddr fld25_2 rfl).yl ?_
      refine QOps.st rfl rfl (Yv.loadB (i := 0) lay3 rfl rfl rfl rfl).yl ?_
      refine QOps.st rfl rfl (Yl.call callable54 (.cons rfl (.nil)) (fun w' hw' => itoa_spec (tab_at htab hw') (by omega) (by omega))) ?_
      refine QOps.st rfl rfl (Yv.strAdd (a := (((([110, 111, 116, 105, 99, 101, 32] ++ (dec n.id)) ++ [58, 32]) ++ (([115, 112, 101, 101, 100, 32] ++ (dec n.value)) ++ [32, 107, 109, 47, 104])) ++ [32, 102, 114, 111, 109, 32, 107, 109, 32])) (b := (dec n.start)) rfl rfl (by simp only [List.length_append, List.length_cons, List.length_nil]; omega)).yl ?_
      refine QOps.st rfl rfl (Yv.strAdd (a := ((((([110, 111, 116, 105, 99, 101, 32] ++ (dec n.id)) ++ [58, 32]) ++ (([115, 112, 101, 101, 100, 32] ++ (dec n.value)) ++ [32, 107, 109, 47, 104])) ++ [32, 102, 114, 111, 109, 32, 107, 109, 32]) ++ (dec n.start))) (b := [32, 116, 111, 32, 107, 109, 32]) rfl rfl (by simp only [List.length_append, List.length_cons, List.length_nil]; omega)).yl ?_
      refine QOps.st rfl rfl (Yv.fieldAddr fld25_3 rfl).yl ?_
      refine QOps.st rfl rfl (Yv.loadB (i := 0) lay3 rfl rfl rfl rfl).yl ?_
      refine QOps.st rfl rfl (Yl.call callable54 (.cons rfl (.nil)) (fun w' hw' => itoa_spec (tab_at htab hw') (by omega) (by omega))) ?_
      refine QOps.st rfl rfl (Yv.strAdd (a := (((((([110, 111, 116, 105, 99, 101, 32] ++ (dec n.id)) ++ [58, 32]) ++ (([115, 112, 101, 101, 100, 32] ++ (dec n.value)) ++ [32, 107, 109, 47, 104])) ++ [32, 102, 114, 111, 109, 32, 107, 109, 32]) ++ (dec n.start)) ++ [32, 116, 111, 32, 107, 109, 32])) (b := (dec n.stop)) rfl rfl (by simp only [List.length_append, List.length_cons, List.length_nil]; omega)).yl ?_
      refine QOps.st rfl rfl (Yv.strAdd (a := ((((((([110, 111, 116, 105, 99, 101, 32] ++ (dec n.id)) ++ [58, 32]) ++ (([115, 112, 101, 101, 100, 32] ++ (dec n.value)) ++ [32, 107, 109, 47, 104])) ++ [32, 102, 114, 111, 109, 32, 107, 109, 32]) ++ (dec n.start)) ++ [32, 116, 111, 32, 107, 109, 32]) ++ (dec n.stop))) (b := [32, 111, 110, 32, 100, 97, 121, 115, 32]) rfl rfl (by simp only [List.length_append, List.length_cons, List.length_nil]; omega)).yl ?_
      refine QOps.st rfl rfl (Yv.fieldAddr fld25_4 rfl).yl ?_
      refine QOps.st rfl rfl (Yv.loadB (i := 0) lay3 rfl rfl rfl rfl).yl ?_
      refine QOps.st rfl rfl (Yl.call callable54 (.cons rfl (.nil)) (fun w' hw' => itoa_spec (tab_at htab hw') (by omega) (by omega))) ?_
      refine QOps.st rfl rfl (Yv.strAdd (a := (((((((([110, 111, 116, 105, 99, 101, 32] ++ (dec n.id)) ++ [58, 32]) ++ (([115, 112, 101, 101, 100, 32] ++ (dec n.value)) ++ [32, 107, 109, 47, 104])) ++ [32, 102, 114, 111, 109, 32, 107, 109, 32]) ++ (dec n.start)) ++ [32, 116, 111, 32, 107, 109, 32]) ++ (dec n.stop)) ++ [32, 111, 110, 32, 100, 97, 121, 115, 32])) (b := (dec n.first)) rfl rfl (by simp only [List.length_append, List.length_cons, List.length_nil]; omega)).yl ?_
      refine QOps.st rfl rfl (Yv.strAdd (a := ((((((((([110, 111, 116, 105, 99, 101, 32] ++ (dec n.id)) ++ [58, 32]) ++ (([115, 112, 101, 101, 100, 32] ++ (dec n.value)) ++ [32, 107, 109, 47, 104])) ++ [32, 102, 114, 111, 109, 32, 107, 109, 32]) ++ (dec n.start)) ++ [32, 116, 111, 32, 107, 109, 32]) ++ (dec n.stop)) ++ [32, 111, 110, 32, 100, 97, 121, 115, 32]) ++ (dec n.first))) (b := [32, 116, 111, 32]) rfl rfl (by simp only [List.length_append, List.length_cons, List.length_nil]; omega)).yl ?_
      refine QOps.st rfl rfl (Yv.fieldAddr fld25_5 rfl).yl ?_
      refine QOps.st rfl rfl (Yv.loadB (i := 0) lay3 rfl rfl rfl rfl).yl ?_
      refine QOps.st rfl rfl (Yl.call callable54 (.cons rfl (.nil)) (fun w' hw' => itoa_spec (tab_at htab hw') (by omega) (by omega))) ?_
      refine QOps.st rfl rfl (Yv.strAdd (a := (((((((((([110, 111, 116, 105, 99, 101, 32] ++ (dec n.id)) ++ [58, 32]) ++ (([115, 112, 101, 101, 100, 32] ++ (dec n.value)) ++ [32, 107, 109, 47, 104])) ++ [32, 102, 114, 111, 109, 32, 107, 109, 32]) ++ (dec n.start)) ++ [32, 116, 111, 32, 107, 109, 32]) ++ (dec n.stop)) ++ [32, 111, 110, 32, 100, 97, 121, 115, 32]) ++ (dec n.first)) ++ [32, 116, 111, 32])) (b := (dec n.last)) rfl rfl (by simp only [List.length_append, List.length_cons, List.length_nil]; omega)).yl ?_
      refine QOps.st rfl rfl (Yv.assign rfl).yl ?_
      refine QOps.nil ?_
      refine Run.ret ?_
      refine retQ.of (.inr rfl) rfl (.tmp rfl .nil) (fun w' hw' => ?_)
      refine ⟨?_, hw'.bel.below⟩
      refine retS_eq ?_
      unfold noteT kindT
      rw [if_neg hc1, if_neg hc2] <;> simp only [List.append_assoc, List.cons_append, List.nil_append]

theorem l22Text_spec {w : World} {n : Notice} (hok : noticeOk n = true) : Calls Tryz.prog 25 #[.agg n.enc.toArray] w (RetB w (strV (noteT n))) := by
  obtain ⟨⟨ha1, ha2⟩, ⟨hb1, hb2⟩, ⟨hd1, hd2⟩, ⟨he1, he2⟩, ⟨hf1, hf2⟩, ⟨hg1, hg2⟩⟩ := note_bnd hok
  have l1 := dec_len ha1 (by omega)
  have l2 := dec_len hb1 (by omega)
  have l3 := dec_len hd1 (by omega)
  have l4 := dec_len he1 (by omega)
  have l5 := dec_len hf1 (by omega)
  have l6 := dec_len hg1 (by omega)
  refine calls_of_run (vs := [_]) (L := [(0, _)]) (n := 52) (F := []) (H := []) Tryz.func25 rfl rfl rfl rfl (HOk.start _) ?_
  refine Run.seq ?_
  refine Run.ops ?_
  refine SOps.one rfl (One.box (cs := [_, _, _, _, _, _, _]) rfl rfl rfl (fun b1 => ?_))
  refine SOps.st rfl rfl (Yv.assign rfl).yl ?_
  refine SOps.nil ?_
  refine Run.seq ?_
  refine Run.quiet (by intro h; cases h) ?_
  refine QOps.st rfl rfl (Yv.fieldAddr fld25_0 rfl).yl ?_
  refine QOps.st rfl rfl (Yv.loadB (i := 0) lay3 rfl rfl rfl rfl).yl ?_
  refine QOps.st rfl rfl (Yl.call callable57 (.cons rfl (.nil)) (fun w' hw' => l1Num_spec (by omega) (by omega))) ?_
  refine QOps.st rfl rfl (Yv.strAdd (a := [110, 111, 116, 105, 99, 101, 32]) (b := (dec n.id)) rfl rfl (by simp only [List.length_append, List.length_cons, List.length_nil]; omega)).yl ?_
  refine QOps.st rfl rfl (Yv.strAdd (a := ([110, 111, 116, 105, 99, 101, 32] ++ (dec n.id))) (b := [58, 32]) rfl rfl (by simp only [List.length_append, List.length_cons, List.length_nil]; omega)).yl ?_
  refine QOps.st rfl rfl (Yv.assign rfl).yl ?_
  refine QOps.nil ?_
  refine Run.seq ?_
  refine Run.seq ?_
  refine Run.quiet (by intro h; cases h) ?_
  refine QOps.st rfl rfl (Yv.fieldAddr fld25_1 rfl).yl ?_
  refine QOps.st rfl rfl (Yv.loadB (i := 0) lay3 rfl rfl rfl rfl).yl ?_
  refine QOps.nil ?_
  refine Run.block ?_
  refine Run.seq ?_
  refine Run.quiet (by intro h; cases h) ?_
  refine QOps.st rfl rfl (Yv.eqI rfl rfl).yl ?_
  refine QOps.st rfl rfl (Yv.assign rfl).yl ?_
  refine QOps.nil ?_
  refine Run.cond rfl (fun hc1 => ?_) (fun hc1 => ?_)
  · try replace hc1 := of_decide_eq_true hc1
    refine Run.quiet (by intro h; cases h) ?_
    refine QOps.st rfl rfl (Yv.move rfl).yl ?_
    refine QOps.st rfl rfl (Yv.strAdd (a := (([110, 111, 116, 105, 99, 101, 32] ++ (dec n.id)) ++ [58, 32])) (b := [99, 108, 111, 115, 101, 100]) rfl rfl (by simp only [List.length_append, List.length_cons, List.length_nil]; omega)).yl ?_
    refine QOps.st rfl rfl (Yv.assign rfl).yl ?_
    refine QOps.nil ?_
    refine Run.seq ?_
    refine Run.quiet (fun _ => ⟨by kernel_rfl, by kernel_rfl⟩) ?_
    refine QOps.st rfl rfl (Yv.move rfl).yl ?_
    refine QOps.st rfl rfl (Yv.strAdd (a := ((([110, 111, 116, 105, 99, 101, 32] ++ (dec n.id)) ++ [58, 32]) ++ [99, 108, 111, 115, 101, 100])) (b := [32, 102, 114, 111, 109, 32, 107, 109, 32]) rfl rfl (by simp only [List.length_append, List.length_cons, List.length_nil]; omega)).yl ?_
    refine QOps.st rfl rfl (Yv.fieldAddr fld25_2 rfl).yl ?_
    refine QOps.st rfl rfl (Yv.loadB (i := 0) lay3 rfl rfl rfl rfl).yl ?_
    refine QOps.st rfl rfl (Yl.call callable57 (.cons rfl (.nil)) (fun w' hw' => l1Num_spec (by omega) (by omega))) ?_
    refine QOps.st rfl rfl (Yv.strAdd (a := (((([110, 111, 116, 105, 99, 101, 32] ++ (dec n.id)) ++ [58, 32]) ++ [99, 108, 111, 115, 101, 100]) ++ [32, 102, 114, 111, 109, 32, 107, 109, 32])) (b := (dec n.start)) rfl rfl (by simp only [List.length_append, List.length_cons, List.length_nil]; omega)).yl ?_
    refine QOps.st rfl rfl (Yv.strAdd (a := ((((([110, 111, 116, 105, 99, 101, 32] ++ (dec n.id)) ++ [58, 32]) ++ [99, 108, 111, 115, 101, 100]) ++ [32, 102, 114, 111, 109, 32, 107, 109, 32]) ++ (dec n.start))) (b := [32, 116, 111, 32, 107, 109, 32]) rfl rfl (by simp only [List.length_append, List.length_cons, List.length_nil]; omega)).yl ?_
    refine QOps.st rfl rfl (Yv.fieldAddr fld25_3 rfl).yl ?_
    refine QOps.st rfl rfl (Yv.loadB (i := 0) lay3 rfl rfl rfl rfl).yl ?_
    refine QOps.st rfl rfl (Yl.call callable57 (.cons rfl (.nil)) (fun w' hw' => l1Num_spec (by omega) (by omega))) ?_
    refine QOps.st rfl rfl (Yv.strAdd (a := (((((([110, 111, 116, 105, 99, 101, 32] ++ (dec n.id)) ++ [58, 32]) ++ [99, 108, 111, 115, 101, 100]) ++ [32, 102, 114, 111, 109, 32, 107, 109, 32]) ++ (dec n.start)) ++ [32, 116, 111, 32, 107, 109, 32])) (b := (dec n.stop)) rfl rfl (by simp only [List.length_append, List.length_cons, List.length_nil]; omega)).yl ?_
    refine QOps.st rfl rfl (Yv.strAdd (a := ((((((([110, 111, 116, 105, 99, 101, 32] ++ (dec n.id)) ++ [58, 32]) ++ [99, 108, 111, 115, 101, 100]) ++ [32, 102, 114, 111, 109, 32, 107, 109, 32]) ++ (dec n.start)) ++ [32, 116, 111, 32, 107, 109, 32]) ++ (dec n.stop))) (b := [32, 111, 110, 32, 100, 97, 121, 115, 32]) rfl rfl (by simp only [List.length_append, List.length_cons, List.length_nil]; omega)).yl ?_
    refine QOps.st rfl rfl (Yv.fieldAddr fld25_4 rfl).yl ?_
    refine QOps.st rfl rfl (Yv.loadB (i := 0) lay3 rfl rfl rfl rfl).yl ?_
    refine QOps.st rfl rfl (Yl.call callable57 (.cons rfl (.nil)) (fun w' hw' => l1Num_spec (by omega) (by omega))) ?_
    refine QOps.st rfl rfl (Yv.strAdd (a := (((((((([110, 111, 116, 105, 99, 101, 32] ++ (dec n.id)) ++ [58, 32]) ++ [99, 108, 111, 115, 101, 100]) ++ [32, 102, 114, 111, 109, 32, 107, 109, 32]) ++ (dec n.start)) ++ [32, 116, 111, 32, 107, 109, 32]) ++ (dec n.stop)) ++ [32, 111, 110, 32, 100, 97, 121, 115, 32])) (b := (dec n.first)) rfl rfl (by simp only [List.length_append, List.length_cons, List.length_nil]; omega)).yl ?_
    refine QOps.st rfl rfl (Yv.strAdd (a := ((((((((([110, 111, 116, 105, 99, 101, 32] ++ (dec n.id)) ++ [58, 32]) ++ [99, 108, 111, 115, 101, 100]) ++ [32, 102, 114, 111, 109, 32, 107, 109, 32]) ++ (dec n.start)) ++ [32, 116, 111, 32, 107, 109, 32]) ++ (dec n.stop)) ++ [32, 111, 110, 32, 100, 97, 121, 115, 32]) ++ (dec n.first))) (b := [32, 116, 111, 32]) rfl rfl (by simp only [List.length_append, List.length_cons, List.length_nil]; omega)).yl ?_
    refine QOps.st rfl rfl (Yv.fieldAddr fld25_5 rfl).yl ?_
    refine QOps.st rfl rfl (Yv.loadB (i := 0) lay3 rfl rfl rfl rfl).yl ?_
    refine QOps.st rfl rfl (Yl.call callable57 (.cons rfl (.nil)) (fun w' hw' => l1Num_spec (by omega) (by omega))) ?_
    refine QOps.st rfl rfl (Yv.strAdd (a := (((((((((([110, 111, 116, 105, 99, 101, 32] ++ (dec n.id)) ++ [58, 32]) ++ [99, 108, 111, 115, 101, 100]) ++ [32, 102, 114, 111, 109, 32, 107, 109, 32]) ++ (dec n.start)) ++ [32, 116, 111, 32, 107, 109, 32]) ++ (dec n.stop)) ++ [32, 111, 110, 32, 100, 97, 121, 115, 32]) ++ (dec n.first)) ++ [32, 116, 111, 32])) (b := (dec n.last)) rfl rfl (by simp only [List.length_append, List.length_cons, List.length_nil]; omega)).yl ?_
    refine QOps.st rfl rfl (Yv.assign rfl).yl ?_
    refine QOps.nil ?_
    refine Run.ret ?_
    refine retQ.of (.inr rfl) rfl (.tmp rfl .nil) (fun w' hw' => ?_)
    refine ⟨?_, hw'.bel.below⟩
    refine retS_eq ?_
    unfold noteT kindT
    rw [if_pos hc1] <;> simp only [List.append_assoc, List.cons_append, List.nil_append]
  · try replace hc1 := of_decide_eq_false hc1
    refine Run.seq ?_
    refine Run.quiet (by intro h; cases h) ?_
    refine QOps.st rfl rfl (Yv.eqI rfl rfl).yl ?_
    refine QOps.st rfl rfl (Yv.assign rfl).yl ?_
    refine QOps.nil ?_
    refine Run.cond rfl (fun hc2 => ?_) (fun hc2 => ?_)
    · try replace hc2 := of_decide_eq_true hc2
      refine Run.quiet (by intro h; cases h) ?_
      refine QOps.st rfl rfl (Yv.move rfl).yl ?_
      refine QOps.st rfl rfl (Yv.strAdd (a := (([110, 111, 116, 105, 99, 101, 32] ++ (dec n.id)) ++ [58, 32])) (b := [100, 101, 112, 116, 104, 32]) rfl rfl (by simp only [List.length_append, List.length_cons, List.length_nil]; omega)).yl ?_
      refine QOps.st rfl rfl (Yv.fieldAddr fld25_6 rfl).yl ?_
      refine QOps.st rfl rfl (Yv.loadB (i := 0) lay3 rfl rfl rfl rfl).yl ?_
      refine QOps.st rfl rfl (Yl.call callable57 (.cons rfl (.nil)) (fun w' hw' => l1Num_spec (by omega) (by omega))) ?_
      refine QOps.st rfl rfl (Yv.strAdd (a := ((([110, 111, 116, 105, 99, 101, 32] ++ (dec n.id)) ++ [58, 32]) ++ [100, 101, 112, 116, 104, 32])) (b := (dec n.value)) rfl rfl (by simp only [List.length_append, List.length_cons, List.length_nil]; omega)).yl ?_
      refine QOps.st rfl rfl (Yv.strAdd (a := (((([110, 111, 116, 105, 99, 101, 32] ++ (dec n.id)) ++ [58, 32]) ++ [100, 101, 112, 116, 104, 32]) ++ (dec n.value))) (b := [32, 99, 109]) rfl rfl (by simp only [List.length_append, List.length_cons, List.length_nil]; omega)).yl ?_
      refine QOps.st rfl rfl (Yv.assign rfl).yl ?_
      refine QOps.nil ?_
      refine Run.seq ?_
      refine Run.quiet (fun _ => ⟨by kernel_rfl, by kernel_rfl⟩) ?_
      refine QOps.st rfl rfl (Yv.move rfl).yl ?_
      refine QOps.st rfl rfl (Yv.strAdd (a := ((((([110, 111, 116, 105, 99, 101, 32] ++ (dec n.id)) ++ [58, 32]) ++ [100, 101, 112, 116, 104, 32]) ++ (dec n.value)) ++ [32, 99, 109])) (b := [32, 102, 114, 111, 109, 32, 107, 109, 32]) rfl rfl (by simp only [List.length_append, List.length_cons, List.length_nil]; omega)).yl ?_
      refine QOps.st rfl rfl (Yv.fieldAddr fld25_2 rfl).yl ?_
      refine QOps.st rfl rfl (Yv.loadB (i := 0) lay3 rfl rfl rfl rfl).yl ?_
      refine QOps.st rfl rfl (Yl.call callable57 (.cons rfl (.nil)) (fun w' hw' => l1Num_spec (by omega) (by omega))) ?_
      refine QOps.st rfl rfl (Yv.strAdd (a := (((((([110, 111, 116, 105, 99, 101, 32] ++ (dec n.id)) ++ [58, 32]) ++ [100, 101, 112, 116, 104, 32]) ++ (dec n.value)) ++ [32, 99, 109]) ++ [32, 102, 114, 111, 109, 32, 107, 109, 32])) (b := (dec n.start)) rfl rfl (by simp only [List.length_append, List.length_cons, List.length_nil]; omega)).yl ?_
      refine QOps.st rfl rfl (Yv.strAdd (a := ((((((([110, 111, 116, 105, 99, 101, 32] ++ (dec n.id)) ++ [58, 32]) ++ [100, 101, 112, 116, 104, 32]) ++ (dec n.value)) ++ [32, 99, 109]) ++ [32, 102, 114, 111, 109, 32, 107, 109, 32]) ++ (dec n.start))) (b := [32, 116, 111, 32, 107, 109, 32]) rfl rfl (by simp only [List.length_append, List.length_cons, List.length_nil]; omega)).yl ?_
      refine QOps.st rfl rfl (Yv.fieldAddr fld25_3 rfl).yl ?_
      refine QOps.st rfl rfl (Yv.loadB (i := 0) lay3 rfl rfl rfl rfl).yl ?_
      refine QOps.st rfl rfl (Yl.call callable57 (.cons rfl (.nil)) (fun w' hw' => l1Num_spec (by omega) (by omega))) ?_
      refine QOps.st rfl rfl (Yv.strAdd (a := (((((((([110, 111, 116, 105, 99, 101, 32] ++ (dec n.id)) ++ [58, 32]) ++ [100, 101, 112, 116, 104, 32]) ++ (dec n.value)) ++ [32, 99, 109]) ++ [32, 102, 114, 111, 109, 32, 107, 109, 32]) ++ (dec n.start)) ++ [32, 116, 111, 32, 107, 109, 32])) (b := (dec n.stop)) rfl rfl (by simp only [List.length_append, List.length_cons, List.length_nil]; omega)).yl ?_
      refine QOps.st rfl rfl (Yv.strAdd (a := ((((((((([110, 111, 116, 105, 99, 101, 32] ++ (dec n.id)) ++ [58, 32]) ++ [100, 101, 112, 116, 104, 32]) ++ (dec n.value)) ++ [32, 99, 109]) ++ [32, 102, 114, 111, 109, 32, 107, 109, 32]) ++ (dec n.start)) ++ [32, 116, 111, 32, 107, 109, 32]) ++ (dec n.stop))) (b := [32, 111, 110, 32, 100, 97, 121, 115, 32]) rfl rfl (by simp only [List.length_append, List.length_cons, List.length_nil]; omega)).yl ?_
      refine QOps.st rfl rfl (Yv.fieldAddr fld25_4 rfl).yl ?_
      refine QOps.st rfl rfl (Yv.loadB (i := 0) lay3 rfl rfl rfl rfl).yl ?_
      refine QOps.st rfl rfl (Yl.call callable57 (.cons rfl (.nil)) (fun w' hw' => l1Num_spec (by omega) (by omega))) ?_
      refine QOps.st rfl rfl (Yv.strAdd (a := (((((((((([110, 111, 116, 105, 99, 101, 32] ++ (dec n.id)) ++ [58, 32]) ++ [100, 101, 112, 116, 104, 32]) ++ (dec n.value)) ++ [32, 99, 109]) ++ [32, 102, 114, 111, 109, 32, 107, 109, 32]) ++ (dec n.start)) ++ [32, 116, 111, 32, 107, 109, 32]) ++ (dec n.stop)) ++ [32, 111, 110, 32, 100, 97, 121, 115, 32])) (b := (dec n.first)) rfl rfl (by simp only [List.length_append, List.length_cons, List.length_nil]; omega)).yl ?_
      refine QOps.st rfl rfl (Yv.strAdd (a := ((((((((((([110, 111, 116, 105, 99, 101, 32] ++ (dec n.id)) ++ [58, 32]) ++ [100, 101, 112, 116, 104, 32]) ++ (dec n.value)) ++ [32, 99, 109]) ++ [32, 102, 114, 111, 109, 32, 107, 109, 32]) ++ (dec n.start)) ++ [32, 116, 111, 32, 107, 109, 32]) ++ (dec n.stop)) ++ [32, 111, 110, 32, 100, 97, 121, 115, 32]) ++ (dec n.first))) (b := [32, 116, 111, 32]) rfl rfl (by simp only [List.length_append, List.length_cons, List.length_nil]; omega)).yl ?_
      refine QOps.st rfl rfl (Yv.fieldAddr fld25_5 rfl).yl ?_
      refine QOps.st rfl rfl (Yv.loadB (i := 0) lay3 rfl rfl rfl rfl).yl ?_
      refine QOps.st rfl rfl (Yl.call callable57 (.cons rfl (.nil)) (fun w' hw' => l1Num_spec (by omega) (by omega))) ?_
      refine QOps.st rfl rfl (Yv.strAdd (a := (((((((((((([110, 111, 116, 105, 99, 101, 32] ++ (dec n.id)) ++ [58, 32]) ++ [100, 101, 112, 116, 104, 32]) ++ (dec n.value)) ++ [32, 99, 109]) ++ [32, 102, 114, 111, 109, 32, 107, 109, 32]) ++ (dec n.start)) ++ [32, 116, 111, 32, 107, 109, 32]) ++ (dec n.stop)) ++ [32, 111, 110, 32, 100, 97, 121, 115, 32]) ++ (dec n.first)) ++ [32, 116, 111, 32])) (b := (dec n.last)) rfl rfl (by simp only [List.length_append, List.length_cons, List.length_nil]; omega)).yl ?_
      refine QOps.st rfl rfl (Yv.assign rfl).yl ?_
      refine QOps.nil ?_
      refine Run.ret ?_
      refine retQ.of (.inr rfl) rfl (.tmp rfl .nil) (fun w' hw' => ?_)
      refine ⟨?_, hw'.bel.below⟩
      refine retS_eq ?_
      unfold noteT kindT
      rw [if_neg hc1, if_pos hc2] <;> simp only [List.append_assoc, List.cons_append, List.nil_append]
    · try replace hc2 := of_decide_eq_false hc2
      refine Run.quiet (by intro h; cases h) ?_
      refine QOps.st rfl rfl (Yv.move rfl).yl ?_
      refine QOps.st rfl rfl (Yv.strAdd (a := (([110, 111, 116, 105, 99, 101, 32] ++ (dec n.id)) ++ [58, 32])) (b := [115, 112, 101, 101, 100, 32]) rfl rfl (by simp only [List.length_append, List.length_cons, List.length_nil]; omega)).yl ?_
      refine QOps.st rfl rfl (Yv.fieldAddr fld25_6 rfl).yl ?_
      refine QOps.st rfl rfl (Yv.loadB (i := 0) lay3 rfl rfl rfl rfl).yl ?_
      refine QOps.st rfl rfl (Yl.call callable57 (.cons rfl (.nil)) (fun w' hw' => l1Num_spec (by omega) (by omega))) ?_
      refine QOps.st rfl rfl (Yv.strAdd (a := ((([110, 111, 116, 105, 99, 101, 32] ++ (dec n.id)) ++ [58, 32]) ++ [115, 112, 101, 101, 100, 32])) (b := (dec n.value)) rfl rfl (by simp only [List.length_append, List.length_cons, List.length_nil]; omega)).yl ?_
      refine QOps.st rfl rfl (Yv.strAdd (a := (((([110, 111, 116, 105, 99, 101, 32] ++ (dec n.id)) ++ [58, 32]) ++ [115, 112, 101, 101, 100, 32]) ++ (dec n.value))) (b := [32, 107, 109, 47, 104]) rfl rfl (by simp only [List.length_append, List.length_cons, List.length_nil]; omega)).yl ?_
      refine QOps.st rfl rfl (Yv.assign rfl).yl ?_
      refine QOps.nil ?_
      refine Run.seq ?_
      refine Run.quiet (fun _ => ⟨by kernel_rfl, by kernel_rfl⟩) ?_
      refine QOps.st rfl rfl (Yv.move rfl).yl ?_
      refine QOps.st rfl rfl (Yv.strAdd (a := ((((([110, 111, 116, 105, 99, 101, 32] ++ (dec n.id)) ++ [58, 32]) ++ [115, 112, 101, 101, 100, 32]) ++ (dec n.value)) ++ [32, 107, 109, 47, 104])) (b := [32, 102, 114, 111, 109, 32, 107, 109, 32]) rfl rfl (by simp only [List.length_append, List.length_cons, List.length_nil]; omega)).yl ?_
      refine QOps.st rfl rfl (Yv.fieldAddr fld25_2 rfl).yl ?_
      refine QOps.st rfl rfl (Yv.loadB (i := 0) lay3 rfl rfl rfl rfl).yl ?_
      refine QOps.st rfl rfl (Yl.call callable57 (.cons rfl (.nil)) (fun w' hw' => l1Num_spec (by omega) (by omega))) ?_
      refine QOps.st rfl rfl (Yv.strAdd (a := (((((([110, 111, 116, 105, 99, 101, 32] ++ (dec n.id)) ++ [58, 32]) ++ [115, 112, 101, 101, 100, 32]) ++ (dec n.value)) ++ [32, 107, 109, 47, 104]) ++ [32, 102, 114, 111, 109, 32, 107, 109, 32])) (b := (dec n.start)) rfl rfl (by simp only [List.length_append, List.length_cons, List.length_nil]; omega)).yl ?_
      refine QOps.st rfl rfl (Yv.strAdd (a := ((((((([110, 111, 116, 105, 99, 101, 32] ++ (dec n.id)) ++ [58, 32]) ++ [115, 112, 101, 101, 100, 32]) ++ (dec n.value)) ++ [32, 107, 109, 47, 104]) ++ [32, 102, 114, 111, 109, 32, 107, 109, 32]) ++ (dec n.start))) (b := [32, 116, 111, 32, 107, 109, 32]) rfl rfl (by simp only [List.length_append, List.length_cons, List.length_nil]; omega)).yl ?_
      refine QOps.st rfl rfl (Yv.fieldAddr fld25_3 rfl).yl ?_
      refine QOps.st rfl rfl (Yv.loadB (i := 0) lay3 rfl rfl rfl rfl).yl ?_
      refine QOps.st rfl rfl (Yl.call callable57 (.cons rfl (.nil)) (fun w' hw' => l1Num_spec (by omega) (by omega))) ?_
      refine QOps.st rfl rfl (Yv.strAdd (a := (((((((([110, 111, 116, 105, 99, 101, 32] ++ (dec n.id)) ++ [58, 32]) ++ [115, 112, 101, 101, 100, 32]) ++ (dec n.value)) ++ [32, 107, 109, 47, 104]) ++ [32, 102, 114, 111, 109, 32, 107, 109, 32]) ++ (dec n.start)) ++ [32, 116, 111, 32, 107, 109, 32])) (b := (dec n.stop)) rfl rfl (by simp only [List.length_append, List.length_cons, List.length_nil]; omega)).yl ?_
      refine QOps.st rfl rfl (Yv.strAdd (a := ((((((((([110, 111, 116, 105, 99, 101, 32] ++ (dec n.id)) ++ [58, 32]) ++ [115, 112, 101, 101, 100, 32]) ++ (dec n.value)) ++ [32, 107, 109, 47, 104]) ++ [32, 102, 114, 111, 109, 32, 107, 109, 32]) ++ (dec n.start)) ++ [32, 116, 111, 32, 107, 109, 32]) ++ (dec n.stop))) (b := [32, 111, 110, 32, 100, 97, 121, 115, 32]) rfl rfl (by simp only [List.length_append, List.length_cons, List.length_nil]; omega)).yl ?_
      refine QOps.st rfl rfl (Yv.fieldAddr fld25_4 rfl).yl ?_
      refine QOps.st rfl rfl (Yv.loadB (i := 0) lay3 rfl rfl rfl rfl).yl ?_
      refine QOps.st rfl rfl (Yl.call callable57 (.cons rfl (.nil)) (fun w' hw' => l1Num_spec (by omega) (by omega))) ?_
      refine QOps.st rfl rfl (Yv.strAdd (a := (((((((((([110, 111, 116, 105, 99, 101, 32] ++ (dec n.id)) ++ [58, 32]) ++ [115, 112, 101, 101, 100, 32]) ++ (dec n.value)) ++ [32, 107, 109, 47, 104]) ++ [32, 102, 114, 111, 109, 32, 107, 109, 32]) ++ (dec n.start)) ++ [32, 116, 111, 32, 107, 109, 32]) ++ (dec n.stop)) ++ [32, 111, 110, 32, 100, 97, 121, 115, 32])) (b := (dec n.first)) rfl rfl (by simp only [List.length_append, List.length_cons, List.length_nil]; omega)).yl ?_
      refine QOps.st rfl rfl (Yv.strAdd (a := ((((((((((([110, 111, 116, 105, 99, 101, 32] ++ (dec n.id)) ++ [58, 32]) ++ [115, 112, 101, 101, 100, 32]) ++ (dec n.value)) ++ [32, 107, 109, 47, 104]) ++ [32, 102, 114, 111, 109, 32, 107, 109, 32]) ++ (dec n.start)) ++ [32, 116, 111, 32, 107, 109, 32]) ++ (dec n.stop)) ++ [32, 111, 110, 32, 100, 97, 121, 115, 32]) ++ (dec n.first))) (b := [32, 116, 111, 32]) rfl rfl (by simp only [List.length_append, List.length_cons, List.length_nil]; omega)).yl ?_
      refine QOps.st rfl rfl (Yv.fieldAddr fld25_5 rfl).yl ?_
      refine QOps.st rfl rfl (Yv.loadB (i := 0) lay3 rfl rfl rfl rfl).yl ?_
      refine QOps.st rfl rfl (Yl.call callable57 (.cons rfl (.nil)) (fun w' hw' => l1Num_spec (by omega) (by omega))) ?_
      refine QOps.st rfl rfl (Yv.strAdd (a := (((((((((((([110, 111, 116, 105, 99, 101, 32] ++ (dec n.id)) ++ [58, 32]) ++ [115, 112, 101, 101, 100, 32]) ++ (dec n.value)) ++ [32, 107, 109, 47, 104]) ++ [32, 102, 114, 111, 109, 32, 107, 109, 32]) ++ (dec n.start)) ++ [32, 116, 111, 32, 107, 109, 32]) ++ (dec n.stop)) ++ [32, 111, 110, 32, 100, 97, 121, 115, 32]) ++ (dec n.first)) ++ [32, 116, 111, 32])) (b := (dec n.last)) rfl rfl (by simp only [List.length_append, List.length_cons, List.length_nil]; omega)).yl ?_
      refine QOps.st rfl rfl (Yv.assign rfl).yl ?_
      refine QOps.nil ?_
      refine Run.ret ?_
      refine retQ.of (.inr rfl) rfl (.tmp rfl .nil) (fun w' hw' => ?_)
      refine ⟨?_, hw'.bel.below⟩
      refine retS_eq ?_
      unfold noteT kindT
      rw [if_neg hc1, if_neg hc2] <;> simp only [List.append_assoc, List.cons_append, List.nil_append]

theorem NoticeText_spec {w : World} {n : Notice} (htab : Tab10 w) : Calls Tryz.prog 6 #[.agg n.enc.toArray] w (RetB w (.tuple #[strV (textOf n).1, .bool (textOf n).2])) := by
  refine calls_of_run (vs := [_]) (L := [(0, _)]) (n := 9) (F := []) (H := []) Tryz.func6 rfl rfl rfl rfl (HOk.start _) ?_
  refine Run.seq ?_
  refine Run.ops ?_
  refine SOps.one rfl (One.box (cs := [_, _, _, _, _, _, _]) rfl rfl rfl (fun b1 => ?_))
  refine SOps.st rfl rfl (Yv.assign rfl).yl ?_
  refine SOps.st rfl rfl (Yv.assign rfl).yl ?_
  refine SOps.nil ?_
  refine Run.seq ?_
  refine Run.seq ?_
  refine Run.quiet (by intro h; cases h) ?_
  refine QOps.st rfl rfl (Yv.loadBs (i := 0) lay25 rfl rfl rfl rfl).yl ?_
  refine QOps.st rfl rfl (Yl.call callable22 (.cons rfl (.nil)) (fun w' hw' => isNotice_spec)) ?_
  refine QOps.st rfl rfl (Yv.not rfl).yl ?_
  refine QOps.nil ?_
  refine Run.cond rfl (fun hc1 => ?_) (fun hc1 => ?_)
  · try replace hc1 := of_decide_eq_true hc1
    have hno : ¬ noticeOk n = true := by simpa using hc1
    refine Run.seq ?_
    refine Run.quiet (by intro h; cases h) ?_
    refine QOps.st rfl rfl (Yv.assign rfl).yl ?_
    refine QOps.st rfl rfl (Yv.assign rfl).yl ?_
    refine QOps.nil ?_
    refine Run.ret ?_
    refine retQ.of (.inr rfl) rfl (.tmp rfl (.tmp rfl .nil)) (fun w' hw' => ?_)
    refine ⟨?_, hw'.bel.below⟩
    unfold textOf; rw [if_neg hno]; rfl
  · try replace hc1 := of_decide_eq_false hc1
    have hok : noticeOk n = true := by simpa using hc1
    refine Run.skip ?_
    refine Run.seq ?_
    refine Run.quiet (by intro h; cases h) ?_
    refine QOps.st rfl rfl (Yv.loadBs (i := 0) lay25 rfl rfl rfl rfl).yl ?_
    refine QOps.st rfl rfl (Yl.call callable23 (.cons rfl (.nil)) (fun w' hw' => noticeText_spec (tab_at htab hw') hok)) ?_
    refine QOps.st rfl rfl (Yv.assign rfl).yl ?_
    refine QOps.st rfl rfl (Yv.assign rfl).yl ?_
    refine QOps.nil ?_
    refine Run.ret ?_
    refine retQ.of (.inr rfl) rfl (.tmp rfl (.tmp rfl .nil)) (fun w' hw' => ?_)
    refine ⟨?_, hw'.bel.below⟩
    unfold textOf; rw [if_pos hok]; rfl

theorem sNoticeText_spec {w : World} {n : Notice} : Calls Tryz.prog 7 #[.agg n.enc.toArray] w (RetB w (.tuple #[strV (textOf n).1, .bool (textOf n).2])) := by
  refine calls_of_run (vs := [_]) (L := [(0, _)]) (n := 9) (F := []) (H := []) Tryz.func7 rfl rfl rfl rfl (HOk.start _) ?_
  refine Run.seq ?_
  refine Run.ops ?_
  refine SOps.one rfl (One.box (cs := [_, _, _, _, _, _, _]) rfl rfl rfl (fun b1 => ?_))
  refine SOps.st rfl rfl (Yv.assign rfl).yl ?_
  refine SOps.st rfl rfl (Yv.assign rfl).yl ?_
  refine SOps.nil ?_
  refine Run.seq ?_
  refine Run.seq ?_
  refine Run.quiet (by intro h; cases h) ?_
  refine QOps.st rfl rfl (Yv.loadBs (i := 0) lay25 rfl rfl rfl rfl).yl ?_
  refine QOps.st rfl rfl (Yl.call callable24 (.cons rfl (.nil)) (fun w' hw' => l22One_spec)) ?_
  refine QOps.st rfl rfl (Yv.not rfl).yl ?_
  refine QOps.nil ?_
  refine Run.cond rfl (fun hc1 => ?_) (fun hc1 => ?_)
  · try replace hc1 := of_decide_eq_true hc1
    have hno : ¬ noticeOk n = true := by simpa using hc1
    refine Run.seq ?_
    refine Run.quiet (by intro h; cases h) ?_
    refine QOps.st rfl rfl (Yv.assign rfl).yl ?_
    refine QOps.st rfl rfl (Yv.assign rfl).yl ?_
    refine QOps.nil ?_
    refine Run.ret ?_
    refine retQ.of (.inr rfl) rfl (.tmp rfl (.tmp rfl .nil)) (fun w' hw' => ?_)
    refine ⟨?_, hw'.bel.below⟩
    unfold textOf; rw [if_neg hno]; rfl
  · try replace hc1 := of_decide_eq_false hc1
    have hok : noticeOk n = true := by simpa using hc1
    refine Run.skip ?_
    refine Run.seq ?_
    refine Run.quiet (by intro h; cases h) ?_
    refine QOps.st rfl rfl (Yv.loadBs (i := 0) lay25 rfl rfl rfl rfl).yl ?_
    refine QOps.st rfl rfl (Yl.call callable25 (.cons rfl (.nil)) (fun w' hw' => l22Text_spec hok)) ?_
    refine QOps.st rfl rfl (Yv.assign rfl).yl ?_
    refine QOps.st rfl rfl (Yv.assign rfl).yl ?_
    refine QOps.nil ?_
    refine Run.ret ?_
    refine retQ.of (.inr rfl) rfl (.tmp rfl (.tmp rfl .nil)) (fun w' hw' => ?_)
    refine ⟨?_, hw'.bel.below⟩
    unfold textOf; rw [if_pos hok]; rfl

end Go.Proofs.YtjabeiolgghfdaaGreatDoor
