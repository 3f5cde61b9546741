/- Convoys are drawn. Conditions: none. -/
import Derived.Test.YtfpglglolhlegaaCon8
import Derived.Test.YtfpglglolhlegaaCv
namespace Go.Proofs.Ytfpglglolhlegaa
open Go.RowKit
set_option maxRecDepth 100000
theorem next_spec {w : World} {g m c : Nat} {A : Option Addr} {xs : List UInt8} {at_ sd : Int} (hc : Cur w 70 g A m c xs at_ sd) (h0 : 0 ≤ at_) (h1 : at_ ≤ 9000000000000000000) : Calls Try.prog 83 #[.pointer (some ⟨g, 0, none⟩)] w (RetC w 70 g (.slice A m c) at_ 1 (fun (x : Int) => .int .i64 x) (fun x => 0 ≤ x ∧ x ≤ 255)) := by
  have hxl : xs.length = m := by have := hc.code.len; rw [flat_len byteC_len] at this; omega
  refine calls_of_run (vs := [_]) (L := [(0, _)]) (n := 62) (F := [g]) (H := [_]) Try.func83 rfl rfl rfl rfl (HOk.lend hc) ?_
  refine Run.seq ?_
  refine Run.quiet (by intro h; cases h) ?_
  refine QOps.st rfl rfl (Yv.assign rfl).yl ?_
  refine QOps.nil ?_
  refine Run.seq ?_
  refine Run.quiet (by intro h; cases h) ?_
  refine QOps.st rfl rfl (Yv.assign rfl).yl ?_
  refine QOps.nil ?_
  refine Run.seq ?_
  refine Run.seq ?_
  refine Run.quiet (fun _ => ⟨by kernel_rfl, by kernel_rfl⟩) ?_
  refine QOps.st rfl rfl (Yv.move rfl).yl ?_
  refine QOps.st rfl rfl (Yv.nilCheck rfl).yl ?_
  refine QOps.st rfl rfl (Yv.fieldAddr fld70_1 rfl).yl ?_
  refine QOps.st rfl rfl (Yv.loadB (i := 0) lay3 rfl rfl rfl rfl).yl ?_
  refine QOps.st rfl rfl (Yv.move rfl).yl ?_
  refine QOps.st rfl rfl (Yv.nilCheck rfl).yl ?_
  refine QOps.st rfl rfl (Yv.fieldAddr fld70_0 rfl).yl ?_
  refine QOps.st rfl rfl (Yv.loadB (i := 0) lay33 rfl rfl rfl rfl).yl ?_
  refine QOps.st rfl rfl (Yv.lenS el33s rfl).yl ?_
  refine QOps.st rfl rfl (Yv.lss rfl rfl).yl ?_
  refine QOps.nil ?_
  refine Run.cond rfl (fun hc1 => ?_) (fun hc1 => ?_)
  · try replace hc1 := of_decide_eq_true hc1
    refine Run.quiet (fun _ => ⟨by kernel_rfl, by kernel_rfl⟩) ?_
    refine QOps.st rfl rfl (Yv.move rfl).yl ?_
    refine QOps.st rfl rfl (Yv.nilCheck rfl).yl ?_
    refine QOps.st rfl rfl (Yv.fieldAddr fld70_0 rfl).yl ?_
    refine QOps.st rfl rfl (Yv.loadB (i := 0) lay33 rfl rfl rfl rfl).yl ?_
    refine QOps.st rfl rfl (Yv.move rfl).yl ?_
    refine QOps.st rfl rfl (Yv.nilCheck rfl).yl ?_
    refine QOps.st rfl rfl (Yv.fieldAddr fld70_1 rfl).yl ?_
    refine QOps.st rfl rfl (Yv.loadB (i := 0) lay3 rfl rfl rfl rfl).yl ?_
    refine QOps.st rfl rfl (Yv.indexAddr at_.toNat el33 rfl rfl (by omega) hc.rd (by omega)).yl ?_
    refine QOps.st rfl rfl (Yv.loadE lay5 rfl byteC_len hc.rd (by omega) rfl).yl ?_
    refine QOps.st rfl rfl (Yv.conv int5 int3 rfl).yl ?_
    refine QOps.st rfl rfl (Yv.assign rfl).yl ?_
    refine QOps.nil ?_
    refine Run.seq ?_
    refine Run.ops ?_
    refine SOps.st rfl rfl (Yv.move rfl).yl ?_
    refine SOps.st rfl rfl (Yv.nilCheck rfl).yl ?_
    refine SOps.st rfl rfl (Yv.fieldAddr fld70_1 rfl).yl ?_
    refine SOps.st rfl rfl (Yv.loadB (i := 0) lay3 rfl rfl rfl rfl).yl ?_
    refine SOps.st rfl rfl (Yv.add rfl rfl (by omega)).yl ?_
    refine SOps.st rfl rfl (Yv.nilCheck rfl).yl ?_
    refine SOps.st rfl rfl (Yv.fieldAddr fld70_1 rfl).yl ?_
    refine SOps.one rfl (One.store (i := 0) (off := 1) (vs := [_]) (cs' := [_, _, _]) (H' := [_]) lay3 rfl rfl rfl rfl rfl rfl rfl rfl rfl rfl ?_)
    refine SOps.nil ?_
    refine Run.seq ?_
    refine Run.ops ?_
    refine SOps.st rfl rfl (Yv.move rfl).yl ?_
    refine SOps.st rfl rfl (Yv.move rfl).yl ?_
    refine SOps.st rfl rfl (Yv.nilCheck rfl).yl ?_
    refine SOps.st rfl rfl (Yv.fieldAddr fld70_2 rfl).yl ?_
    refine SOps.st rfl rfl (Yv.loadB (i := 0) lay68 rfl rfl rfl rfl).yl ?_
    refine SOps.st rfl rfl (Yv.mulW rfl rfl).yl ?_
    refine SOps.st rfl rfl (Yv.move rfl).yl ?_
    refine SOps.st rfl rfl (Yv.conv int3 int68 rfl).yl ?_
    refine SOps.st rfl rfl (Yv.addW rfl rfl).yl ?_
    refine SOps.st rfl rfl (Yv.addW rfl rfl).yl ?_
    refine SOps.st rfl rfl (Yv.nilCheck rfl).yl ?_
    refine SOps.st rfl rfl (Yv.fieldAddr fld70_2 rfl).yl ?_
    refine SOps.one rfl (One.store (i := 0) (off := 2) (vs := [_]) (cs' := [_, _, _]) (H' := [_]) lay68 rfl rfl rfl rfl rfl rfl rfl rfl rfl rfl ?_)
    refine SOps.nil ?_
    refine Run.seq ?_
    refine Run.seq ?_
    refine Run.quiet (fun _ => ⟨by kernel_rfl, by kernel_rfl⟩) ?_
    refine QOps.st rfl rfl (Yv.move rfl).yl ?_
    refine QOps.st rfl rfl (Yv.nilCheck rfl).yl ?_
    refine QOps.st rfl rfl (Yv.fieldAddr fld70_1 rfl).yl ?_
    refine QOps.st rfl rfl (Yv.loadB (i := 0) lay3 rfl rfl rfl rfl).yl ?_
    refine QOps.st rfl rfl (Yv.move rfl).yl ?_
    refine QOps.st rfl rfl (Yv.nilCheck rfl).yl ?_
    refine QOps.st rfl rfl (Yv.fieldAddr fld70_0 rfl).yl ?_
    refine QOps.st rfl rfl (Yv.loadB (i := 0) lay33 rfl rfl rfl rfl).yl ?_
    refine QOps.st rfl rfl (Yv.lenS el33s rfl).yl ?_
    refine QOps.st rfl rfl (Yv.leq rfl rfl).yl ?_
    refine QOps.nil ?_
    refine Run.cond rfl (fun hc2 => ?_) (fun hc2 => ?_)
    · try replace hc2 := of_decide_eq_true hc2
      refine Run.seq ?_
      refine Run.quiet (by intro h; cases h) ?_
      refine QOps.st rfl rfl (Yv.move rfl).yl ?_
      refine QOps.st rfl rfl (Yv.assign rfl).yl ?_
      refine QOps.nil ?_
      refine Run.ret ?_
      refine retQ.of (.inr rfl) rfl (.tmp rfl .nil) (fun w' hw' => ?_)
      exact ⟨_, _, _, rfl, (by rw [wrap_byte]; have := (nth xs at_.toNat).toNat_lt; omega), by omega, by omega, hw'.bel, hw'.ent _ (List.mem_of_getElem? (i := 0) rfl)⟩
    · try replace hc2 := of_decide_eq_false hc2
      refine Run.skip ?_
      refine Run.seq ?_
      refine Run.quiet (by intro h; cases h) ?_
      refine QOps.st rfl rfl (Yv.move rfl).yl ?_
      refine QOps.st rfl rfl (Yv.nilCheck rfl).yl ?_
      refine QOps.st rfl rfl (Yv.fieldAddr fld70_2 rfl).yl ?_
      refine QOps.st rfl rfl (Yv.loadB (i := 0) lay68 rfl rfl rfl rfl).yl ?_
      refine QOps.st rfl rfl (Yv.shr rfl rfl (by decide)).yl ?_
      refine QOps.st rfl rfl (Yv.and rfl rfl).yl ?_
      refine QOps.st rfl rfl (Yv.conv int68 int3 rfl).yl ?_
      refine QOps.st rfl rfl (Yv.assign rfl).yl ?_
      refine QOps.nil ?_
      refine Run.ret ?_
      refine retQ.of (.inr rfl) rfl (.tmp rfl .nil) (fun w' hw' => ?_)
      exact ⟨_, _, _, rfl, and255, by omega, by omega, hw'.bel, hw'.ent _ (List.mem_of_getElem? (i := 0) rfl)⟩
  · try replace hc1 := of_decide_eq_false hc1
    refine Run.skip ?_
    refine Run.seq ?_
    refine Run.ops ?_
    refine SOps.st rfl rfl (Yv.move rfl).yl ?_
    refine SOps.st rfl rfl (Yv.nilCheck rfl).yl ?_
    refine SOps.st rfl rfl (Yv.fieldAddr fld70_1 rfl).yl ?_
    refine SOps.st rfl rfl (Yv.loadB (i := 0) lay3 rfl rfl rfl rfl).yl ?_
    refine SOps.st rfl rfl (Yv.add rfl rfl (by omega)).yl ?_
    refine SOps.st rfl rfl (Yv.nilCheck rfl).yl ?_
    refine SOps.st rfl rfl (Yv.fieldAddr fld70_1 rfl).yl ?_
    refine SOps.one rfl (One.store (i := 0) (off := 1) (vs := [_]) (cs' := [_, _, _]) (H' := [_]) lay3 rfl rfl rfl rfl rfl rfl rfl rfl rfl rfl ?_)
    refine SOps.nil ?_
    refine Run.seq ?_
    refine Run.ops ?_
    refine SOps.st rfl rfl (Yv.move rfl).yl ?_
    refine SOps.st rfl rfl (Yv.move rfl).yl ?_
    refine SOps.st rfl rfl (Yv.nilCheck rfl).yl ?_
    refine SOps.st rfl rfl (Yv.fieldAddr fld70_2 rfl).yl ?_
    refine SOps.st rfl rfl (Yv.loadB (i := 0) lay68 rfl rfl rfl rfl).yl ?_
    refine SOps.st rfl rfl (Yv.mulW rfl rfl).yl ?_
    refine SOps.st rfl rfl (Yv.move rfl).yl ?_
    refine SOps.st rfl rfl (Yv.conv int3 int68 rfl).yl ?_
    refine SOps.st rfl rfl (Yv.addW rfl rfl).yl ?_
    refine SOps.st rfl rfl (Yv.addW rfl rfl).yl ?_
    refine SOps.st rfl rfl (Yv.nilCheck rfl).yl ?_
    refine SOps.st rfl rfl (Yv.fieldAddr fld70_2 rfl).yl ?_
    refine SOps.one rfl (One.store (i := 0) (off := 2) (vs := [_]) (cs' := [_, _, _]) (H' := [_]) lay68 rfl rfl rfl rfl rfl rfl rfl rfl rfl rfl ?_)
    refine SOps.nil ?_
    refine Run.seq ?_
    refine Run.seq ?_
    refine Run.quiet (fun _ => ⟨by kernel_rfl, by kernel_rfl⟩) ?_
    refine QOps.st rfl rfl (Yv.move rfl).yl ?_
    refine QOps.st rfl rfl (Yv.nilCheck rfl).yl ?_
    refine QOps.st rfl rfl (Yv.fieldAddr fld70_1 rfl).yl ?_
    refine QOps.st rfl rfl (Yv.loadB (i := 0) lay3 rfl rfl rfl rfl).yl ?_
    refine QOps.st rfl rfl (Yv.move rfl).yl ?_
    refine QOps.st rfl rfl (Yv.nilCheck rfl).yl ?_
    refine QOps.st rfl rfl (Yv.fieldAddr fld70_0 rfl).yl ?_
    refine QOps.st rfl rfl (Yv.loadB (i := 0) lay33 rfl rfl rfl rfl).yl ?_
    refine QOps.st rfl rfl (Yv.lenS el33s rfl).yl ?_
    refine QOps.st rfl rfl (Yv.leq rfl rfl).yl ?_
    refine QOps.nil ?_
    refine Run.cond rfl (fun hc3 => ?_) (fun hc3 => ?_)
    · try replace hc3 := of_decide_eq_true hc3
      refine Run.seq ?_
      refine Run.quiet (by intro h; cases h) ?_
      refine QOps.st rfl rfl (Yv.move rfl).yl ?_
      refine QOps.st rfl rfl (Yv.assign rfl).yl ?_
      refine QOps.nil ?_
      refine Run.ret ?_
      refine retQ.of (.inr rfl) rfl (.tmp rfl .nil) (fun w' hw' => ?_)
      exact ⟨_, _, _, rfl, (by omega), by omega, by omega, hw'.bel, hw'.ent _ (List.mem_of_getElem? (i := 0) rfl)⟩
    · try replace hc3 := of_decide_eq_false hc3
      refine Run.skip ?_
      refine Run.seq ?_
      refine Run.quiet (by intro h; cases h) ?_
      refine QOps.st rfl rfl (Yv.move rfl).yl ?_
      refine QOps.st rfl rfl (Yv.nilCheck rfl).yl ?_
      refine QOps.st rfl rfl (Yv.fieldAddr fld70_2 rfl).yl ?_
      refine QOps.st rfl rfl (Yv.loadB (i := 0) lay68 rfl rfl rfl rfl).yl ?_
      refine QOps.st rfl rfl (Yv.shr rfl rfl (by decide)).yl ?_
      refine QOps.st rfl rfl (Yv.and rfl rfl).yl ?_
      refine QOps.st rfl rfl (Yv.conv int68 int3 rfl).yl ?_
      refine QOps.st rfl rfl (Yv.assign rfl).yl ?_
      refine QOps.nil ?_
      refine Run.ret ?_
      refine retQ.of (.inr rfl) rfl (.tmp rfl .nil) (fun w' hw' => ?_)
      exact ⟨_, _, _, rfl, and255, by omega, by omega, hw'.bel, hw'.ent _ (List.mem_of_getElem? (i := 0) rfl)⟩
theorem tmod_in {x n : Int} (hx : 0 ≤ x) (hn : 0 < n) : 0 ≤ x.tmod n ∧ x.tmod n < n := ⟨Int.tmod_nonneg n hx, Int.tmod_lt_of_pos x hn⟩
theorem pick_spec {w : World} {g m c : Nat} {A : Option Addr} {xs : List UInt8} {at_ sd : Int} {n : Int} (hc : Cur w 70 g A m c xs at_ sd) (h0 : 0 ≤ at_) (h1 : at_ ≤ 8000000000000000000)  : Calls Try.prog 77 #[.pointer (some ⟨g, 0, none⟩), .int .i64 n] w (RetC w 70 g (.slice A m c) at_ 2 (fun (x : Int) => .int .i64 x) (fun x => 0 ≤ x ∧ (x < n ∨ n ≤ 1 ∧ x = 0))) := by
  refine calls_of_run (vs := [_, _]) (L := [(0, _), (1, _)]) (n := 20) (F := [g]) (H := [_]) Try.func77 rfl rfl rfl rfl (HOk.lend hc) ?_
  refine Run.seq ?_
  refine Run.quiet (by intro h; cases h) ?_
  refine QOps.st rfl rfl (Yv.assign rfl).yl ?_
  refine QOps.nil ?_
  refine Run.seq ?_
  refine Run.seq ?_
  refine Run.quiet (by intro h; cases h) ?_
  refine QOps.st rfl rfl (Yv.move rfl).yl ?_
  refine QOps.st rfl rfl (Yv.leq rfl rfl).yl ?_
  refine QOps.nil ?_
  refine Run.cond rfl (fun hc1 => ?_) (fun hc1 => ?_)
  · try replace hc1 := of_decide_eq_true hc1
    refine Run.seq ?_
    refine Run.quiet (by intro h; cases h) ?_
    refine QOps.st rfl rfl (Yv.assign rfl).yl ?_
    refine QOps.nil ?_
    refine Run.ret ?_
    refine retQ.of (.inr rfl) rfl (.tmp rfl .nil) (fun w' hw' => ?_)
    exact ⟨0, _, _, rfl, ⟨by omega, .inr ⟨hc1, rfl⟩⟩, by omega, by omega, hw'.bel, hw'.ent _ (List.mem_of_getElem? (i := 0) rfl)⟩
  · try replace hc1 := of_decide_eq_false hc1
    refine Run.skip ?_
    refine Run.seq ?_
    refine Run.ops ?_
    refine SOps.st rfl rfl (Yv.move rfl).yl ?_
    refine SOps.one rfl (One.callC (i := 0) (H' := fun _ _ => [_]) rfl callable83 (.cons rfl (.nil)) rfl (fun w' hw' => next_spec (Cur.lent hc (i := 0) rfl hw') (by omega) (by omega)) (fun _ _ => rfl) (fun x1 at1 sd1 ⟨hxl1, hxh1⟩ ha1 hb1 => ?_))
    refine SOps.st rfl rfl (Yv.assign rfl).yl ?_
    refine SOps.nil ?_
    refine Run.seq ?_
    refine Run.seq ?_
    refine Run.quiet (by intro h; cases h) ?_
    refine QOps.st rfl rfl (Yv.move rfl).yl ?_
    refine QOps.st rfl rfl (Yv.gtr rfl rfl).yl ?_
    refine QOps.nil ?_
    refine Run.cond rfl (fun hc2 => ?_) (fun hc2 => ?_)
    · try replace hc2 := of_decide_eq_true hc2
      refine Run.ops ?_
      refine SOps.st rfl rfl (Yv.move rfl).yl ?_
      refine SOps.st rfl rfl (Yv.mul rfl rfl (by omega)).yl ?_
      refine SOps.st rfl rfl (Yv.move rfl).yl ?_
      refine SOps.one rfl (One.callC (i := 0) (H' := fun _ _ => [_]) rfl callable83 (.cons rfl (.nil)) rfl (fun w' hw' => next_spec (Cur.lent hc (i := 0) rfl hw') (by omega) (by omega)) (fun _ _ => rfl) (fun x2 at2 sd2 ⟨hxl2, hxh2⟩ ha2 hb2 => ?_))
      refine SOps.st rfl rfl (Yv.add rfl rfl (by omega)).yl ?_
      refine SOps.st rfl rfl (Yv.assign rfl).yl ?_
      refine SOps.nil ?_
      refine Run.seq ?_
      refine Run.quiet (by intro h; cases h) ?_
      refine QOps.st rfl rfl (Yv.move rfl).yl ?_
      refine QOps.st rfl rfl (Yv.move rfl).yl ?_
      refine QOps.st rfl rfl (Yv.rem rfl rfl (by omega)).yl ?_
      refine QOps.st rfl rfl (Yv.assign rfl).yl ?_
      refine QOps.nil ?_
      refine Run.ret ?_
      refine retQ.of (.inr rfl) rfl (.tmp rfl .nil) (fun w' hw' => ?_)
      exact ⟨_, _, _, rfl, (by have := tmod_in (x := x1 * 256 + x2) (n := n) (by omega) (by omega); exact ⟨this.1, .inl this.2⟩), by omega, by omega, hw'.bel, hw'.ent _ (List.mem_of_getElem? (i := 0) rfl)⟩
    · try replace hc2 := of_decide_eq_false hc2
      refine Run.skip ?_
      refine Run.seq ?_
      refine Run.quiet (by intro h; cases h) ?_
      refine QOps.st rfl rfl (Yv.move rfl).yl ?_
      refine QOps.st rfl rfl (Yv.move rfl).yl ?_
      refine QOps.st rfl rfl (Yv.rem rfl rfl (by omega)).yl ?_
      refine QOps.st rfl rfl (Yv.assign rfl).yl ?_
      refine QOps.nil ?_
      refine Run.ret ?_
      refine retQ.of (.inr rfl) rfl (.tmp rfl .nil) (fun w' hw' => ?_)
      exact ⟨_, _, _, rfl, (by have := tmod_in (x := x1) (n := n) (by omega) (by omega); exact ⟨this.1, .inl this.2⟩), by omega, by omega, hw'.bel, hw'.ent _ (List.mem_of_getElem? (i := 0) rfl)⟩

theorem one_spec {w : World} {g m c : Nat} {A : Option Addr} {xs : List UInt8} {at_ sd : Int} {n : Int} (hc : Cur w 70 g A m c xs at_ sd) (h0 : 0 ≤ at_) (h1 : at_ ≤ 7000000000000000000)  : Calls Try.prog 81 #[.pointer (some ⟨g, 0, none⟩), .int .i64 n] w (RetC w 70 g (.slice A m c) at_ 2 (fun (x : Bool) => .bool x) (fun _ => True)) := by
  refine calls_of_run (vs := [_, _]) (L := [(0, _), (1, _)]) (n := 9) (F := [g]) (H := [_]) Try.func81 rfl rfl rfl rfl (HOk.lend hc) ?_
  refine Run.seq ?_
  refine Run.quiet (by intro h; cases h) ?_
  refine QOps.st rfl rfl (Yv.assign rfl).yl ?_
  refine QOps.nil ?_
  refine Run.seq ?_
  refine Run.ops ?_
  refine SOps.st rfl rfl (Yv.move rfl).yl ?_
  refine SOps.st rfl rfl (Yv.move rfl).yl ?_
  refine SOps.one rfl (One.callC (i := 0) (H' := fun _ _ => [_]) rfl callable77 (.cons rfl (.cons rfl (.nil))) rfl (fun w' hw' => pick_spec (Cur.lent hc (i := 0) rfl hw') (by omega) (by omega)) (fun _ _ => rfl) (fun x1 at1 sd1 ⟨hxl1, hxh1⟩ ha1 hb1 => ?_))
  refine SOps.st rfl rfl (Yv.eqI rfl rfl).yl ?_
  refine SOps.st rfl rfl (Yv.assign rfl).yl ?_
  refine SOps.nil ?_
  refine Run.ret ?_
  refine retQ.of (.inr rfl) rfl (.tmp rfl .nil) (fun w' hw' => ?_)
  exact ⟨_, _, _, rfl, trivial, by omega, by omega, hw'.bel, hw'.ent _ (List.mem_of_getElem? (i := 0) rfl)⟩

theorem nth_mem {α : Type} [Inhabited α] {l : List α} {k : Nat} (h : k < l.length) : nth l k ∈ l := List.mem_of_getElem? (nth_get h)
theorem among_spec {w : World} {g m c : Nat} {A : Option Addr} {xs : List UInt8} {at_ sd : Int} {A2 : Option Addr} {k c2 : Nat} {l : List Int} (hc : Cur w 70 g A m c xs at_ sd) (h0 : 0 ≤ at_) (h1 : at_ ≤ 7000000000000000000) (hl : Sl w 1 A2 k c2 (l.flatMap intC)) (hk : l.length = k) (hk0 : 0 < k) (hkm : k ≤ 1048576) (hne2 : 0 < k → (adr A2).block ≠ g) : Calls Try.prog 80 #[.pointer (some ⟨g, 0, none⟩), .slice A2 k c2] w (RetC w 70 g (.slice A m c) at_ 2 (fun (x : Int) => .int .i64 x) (fun x => x ∈ l)) := by
  refine calls_of_run (vs := [_, _]) (L := [(0, _), (1, _)]) (n := 12) (F := [g]) (H := [_]) Try.func80 rfl rfl rfl rfl (HOk.lend hc) ?_
  refine Run.seq ?_
  refine Run.quiet (by intro h; cases h) ?_
  refine QOps.st rfl rfl (Yv.assign rfl).yl ?_
  refine QOps.nil ?_
  refine Run.seq ?_
  refine Run.ops ?_
  refine SOps.st rfl rfl (Yv.move rfl).yl ?_
  refine SOps.st rfl rfl (Yv.move rfl).yl ?_
  refine SOps.st rfl rfl (Yv.move rfl).yl ?_
  refine SOps.st rfl rfl (Yv.lenS el22s rfl).yl ?_
  refine SOps.one rfl (One.callC (i := 0) (H' := fun _ _ => [_]) rfl callable77 (.cons rfl (.cons rfl (.nil))) rfl (fun w' hw' => pick_spec (Cur.lent hc (i := 0) rfl hw') (by omega) (by omega)) (fun _ _ => rfl) (fun x1 at1 sd1 ⟨hxl1, hxh1⟩ ha1 hb1 => ?_))
  refine SOps.st rfl rfl (Yv.indexAddr x1.toNat el22 rfl rfl (by omega) (Rd.argN hl (fun h => by simpa using hne2 h)) (by omega)).yl ?_
  refine SOps.st rfl rfl (Yv.loadE lay3 rfl intC_len (Rd.argN hl (fun h => by simpa using hne2 h)) (by omega) rfl).yl ?_
  refine SOps.st rfl rfl (Yv.assign rfl).yl ?_
  refine SOps.nil ?_
  refine Run.ret ?_
  refine retQ.of (.inr rfl) rfl (.tmp rfl .nil) (fun w' hw' => ?_)
  exact ⟨_, _, _, rfl, (nth_mem (by omega)), by omega, by omega, hw'.bel, hw'.ent _ (List.mem_of_getElem? (i := 0) rfl)⟩


theorem convoy_spec {w : World} {g m c : Nat} {A : Option Addr} {xs : List UInt8} {at_ sd : Int} (hc : Cur w 70 g A m c xs at_ sd) (h0 : 0 ≤ at_) (h1 : at_ ≤ 5000000000000000000) :
    Calls Try.prog 60 #[.pointer (some ⟨g, 0, none⟩)] w (RetCR w 70 g (.slice A m c) at_ 100 3 1 intC (fun (x : Int × List Int) => x.2) (fun x v => .agg #[.int .i64 x.1, v]) (fun x => x.2.length ≤ 20)) := by
  refine calls_of_run (vs := [_]) (L := [(0, _)]) (n := 61) (F := [g]) (H := [_]) Try.func60 rfl rfl rfl rfl (HOk.lend hc) ?_
  refine Run.seq ?_
  refine Run.ops ?_
  refine SOps.one rfl (One.alloc rfl zero27 (fun b1 => ?_))
  refine SOps.nil ?_
  refine Run.seq ?_
  refine Run.ops ?_
  refine SOps.st rfl rfl (Yv.move rfl).yl ?_
  refine SOps.one rfl (One.callC (i := 1) (H' := fun _ _ => [_, _]) rfl callable77 (.cons rfl (.cons rfl (.nil))) rfl (fun w' hw' => pick_spec (Cur.lent hc (i := 1) rfl hw') (by omega) (by omega)) (fun _ _ => rfl) (fun x1 at1 sd1 ⟨hxl1, hxh1⟩ ha1 hb1 => ?_))
  refine SOps.st rfl rfl (Yv.add rfl rfl (by omega)).yl ?_
  refine SOps.st rfl rfl (Yv.buildG (pv := [(0, _)]) (cs := [_, _]) (fun l => match l with | [a0_0] => [a0_0, .slice none 0 0] | _ => []) (.cons rfl (.nil)) rfl rfl (by kernel_rfl)).yl ?_
  refine SOps.one rfl (One.alloc rfl zero27 (fun b2 => ?_))
  refine SOps.one rfl (One.store (i := 0) (off := 0) (vs := [_, _]) (cs' := [_, _]) (H' := [_, _, _]) lay27 rfl rfl rfl rfl rfl rfl rfl rfl rfl rfl ?_)
  refine SOps.nil ?_
  refine Run.seq ?_
  refine Run.seq ?_
  refine Run.nilRow (T := 3) (sz := 1) ?_
  refine Run.ops ?_
  refine SOps.st rfl rfl (Yv.move rfl).yl ?_
  refine SOps.one rfl (One.callC (i := 3) (H' := fun _ _ => [_, _, _, _]) rfl callable77 (.cons rfl (.cons rfl (.nil))) rfl (fun w' hw' => pick_spec (Cur.lent hc (i := 3) rfl hw') (by omega) (by omega)) (fun _ _ => rfl) (fun x2 at2 sd2 ⟨hxl2, hxh2⟩ ha2 hb2 => ?_))
  refine SOps.st rfl rfl (Yv.add rfl rfl (by omega)).yl ?_
  refine SOps.st rfl rfl (Yv.assign rfl).yl ?_
  refine SOps.nil ?_
  refine Run.block ?_
  refine Run.loop (S := Int × Nat × List Int × Option Addr × Nat × Int × Int) (fun s => match s with | (z, nn, o, A2, c2, a2, s2) => 0 ≤ z ∧ z ≤ 7 ∧ nn ≤ 7 - z ∧ at_ ≤ a2 ∧ a2 ≤ at_ + 4 + 2 * (7 - z) ∧ o.length = nn) (fun s => match s with | (z, nn, o, A2, c2, a2, s2) => [(0, .pointer (some ⟨g, 0, none⟩)), (2, .pointer (some ⟨b1, 0, none⟩)), (3, .pointer (some ⟨b2, 0, none⟩)), (4, .int .i64 z)]) (fun s => match s with | (z, nn, o, A2, c2, a2, s2) => [.row A2 c2 3 1 nn (o.flatMap intC), .blk b2 27 [.int .i64 (1 + x1), .slice A2 nn c2], .blk b1 27 [.int .i64 0, .slice none 0 0], .blk g 70 [.slice A m c, .int .i64 a2, .int .u64 s2]]) (fun s => match s with | (z, nn, o, A2, c2, a2, s2) => z.toNat) (_, 0, [], none, 0, _, _) ?_ (SubE.cons rfl (SubE.cons rfl (SubE.cons rfl (SubE.cons rfl (SubE.nil _))))) (List.Sublist.refl _) ?_
  · refine ⟨by omega, by omega, by omega, by omega, by omega, rfl⟩
  · rintro ⟨z, nn, o, A2, c2, a2, s2⟩ ⟨hz0, hz7, hn10, ha2l, ha2h, hnn⟩
    show Run _ _ _ _ _ [(0, .pointer (some ⟨g, 0, none⟩)), (2, .pointer (some ⟨b1, 0, none⟩)), (3, .pointer (some ⟨b2, 0, none⟩)), (4, .int .i64 z)] [.row A2 c2 3 1 nn (o.flatMap intC), .blk b2 27 [.int .i64 (1 + x1), .slice A2 nn c2], .blk b1 27 [.int .i64 0, .slice none 0 0], .blk g 70 [.slice A m c, .int .i64 a2, .int .u64 s2]] _
    subst hnn
    refine Run.seq ?_
    refine Run.seq ?_
    refine Run.quiet (by intro h; cases h) ?_
    refine QOps.st rfl rfl (Yv.move rfl).yl ?_
    refine QOps.st rfl rfl (Yv.gtr rfl rfl).yl ?_
    refine QOps.nil ?_
    refine Run.cond rfl (fun hc1 => ?_) (fun hc1 => ?_)
    · try replace hc1 := of_decide_eq_true hc1
      refine Run.skip ?_
      refine Run.seq ?_
      refine Run.block ?_
      refine Run.draws (fun H => (((H).eraseIdx 3).eraseIdx 1).eraseIdx 0) (m := 9) (listed := #[false, false, false, false, false, false, false, false, false]) (by kernel_rfl) rfl rfl ?_
      refine DOps.take (listed' := #[true, false, false, false, false, false, false, false, false]) 0 rfl (by kernel_rfl) rfl (List.Sublist.cons _ (List.Sublist.cons _ (List.Sublist.cons_cons _ (List.nil_sublist _)))) rfl rfl (Yv.fieldAddr fld27_1 rfl) ?_
      refine DOps.take (listed' := #[true, false, true, false, false, false, false, false, false]) 2 rfl (by kernel_rfl) rfl (List.Sublist.cons _ (List.Sublist.cons _ (List.Sublist.cons_cons _ (List.nil_sublist _)))) rfl rfl (Yv.move rfl) ?_
      refine DOps.fork2 (l1 := #[true, true, true, false, false, false, false, false, false]) (l2 := #[true, false, true, true, false, false, false, false, false]) 1 3 rfl rfl (by kernel_rfl) rfl rfl rfl rfl ?_ ?_
      ·
        refine One.st rfl (Yv.loadB (i := 1) lay22 rfl rfl rfl rfl).yl ?_
        refine ⟨(List.Sublist.cons _ (List.Sublist.cons _ (List.Sublist.cons_cons _ (List.nil_sublist _)))), ?_⟩
        refine DOps.only (listed' := #[true, true, true, true, false, false, false, false, false]) 3 rfl (by kernel_rfl) rfl rfl ?_
        refine One.callC (i := 3) (H' := fun _ _ => [_, _, _, _]) rfl callable77 (.cons rfl (.cons rfl (.nil))) rfl (fun w' hw' => pick_spec (Cur.lent hc (i := 3) rfl hw') (by omega) (by omega)) (fun _ _ => rfl) (fun x3 at3 sd3 ⟨hxl3, hxh3⟩ ha3 hb3 => ?_)
        refine ⟨(List.Sublist.cons _ (List.Sublist.cons _ (List.Sublist.cons_cons _ (List.nil_sublist _)))), ?_⟩
        refine DOps.take (listed' := #[true, true, true, true, true, false, false, false, false]) 4 rfl (by kernel_rfl) rfl (List.Sublist.cons _ (List.Sublist.cons _ (List.Sublist.cons_cons _ (List.nil_sublist _)))) rfl rfl (Yv.add rfl rfl (by omega)) ?_
        refine DOps.only (listed' := #[true, true, true, true, true, true, false, false, false]) 5 rfl (by kernel_rfl) rfl rfl ?_
        refine One.buildSliceG (pv := [(0, _)]) (cs := [_]) (fun l => match l with | [a0_0] => [a0_0] | _ => []) rfl el22 (.cons rfl (.nil)) rfl rfl (by kernel_rfl) rfl rfl (fun b3 => ?_)
        refine ⟨(List.Sublist.cons _ (List.Sublist.cons _ (List.Sublist.cons _ (List.Sublist.cons_cons _ (List.nil_sublist _))))), ?_⟩
        refine DOps.only (listed' := #[true, true, true, true, true, true, true, false, false]) 6 rfl (by kernel_rfl) rfl rfl ?_
        refine One.append (enc := intC) (l := o) (l2 := [_]) (m' := (o.length + 1)) (i := 1) (H' := fun A c => [_, _, _, _, _]) rfl el22 zero3 rfl (by decide) rfl rfl rfl (Rd.row (i := 0) rfl) (fun _ => rfl) rfl (by omega) (by omega) (fun _ _ => rfl) (fun A1 c1 => ?_)
        refine ⟨(List.Sublist.cons _ (List.Sublist.cons _ (List.Sublist.cons _ (List.Sublist.cons_cons _ (List.nil_sublist _))))), ?_⟩
        refine DOps.take (listed' := #[true, true, true, true, true, true, true, true, false]) 7 rfl (by kernel_rfl) rfl (List.Sublist.cons _ (List.Sublist.cons _ (List.Sublist.cons _ (List.Sublist.cons_cons _ (List.nil_sublist _))))) rfl rfl (Yv.fieldAddr fld27_1 rfl) ?_
        refine DOps.only (listed' := #[true, true, true, true, true, true, true, true, true]) 8 rfl (by kernel_rfl) rfl rfl ?_
        refine One.store (i := 2) (off := 1) (vs := [_]) (cs' := [_, _]) (H' := [_, _, _, _, _]) lay22 rfl rfl rfl rfl rfl rfl rfl rfl rfl rfl ?_
        refine ⟨(List.Sublist.cons _ (List.Sublist.cons _ (List.Sublist.cons _ (List.Sublist.cons_cons _ (List.nil_sublist _))))), ?_⟩
        refine DOps.done (by kernel_rfl) ?_
        refine Run.quiet (by intro h; cases h) ?_
        refine QOps.st rfl rfl (Yv.move rfl).yl ?_
        refine QOps.st rfl rfl (Yv.sub rfl rfl (by omega)).yl ?_
        refine QOps.st rfl rfl (Yv.assign rfl).yl ?_
        refine QOps.nil ?_
        refine ⟨(z - 1, _, _, _, _, _, _), ?_, ?_, (SubE.cons rfl (SubE.cons rfl (SubE.cons rfl (SubE.cons rfl (SubE.nil _))))), (List.Sublist.cons _ (List.Sublist.refl _))⟩
        · refine ⟨by omega, by omega, ?_, by omega, by omega, ?_⟩ <;> first | rfl | omega | (simp; done) | (simp; omega)
        · first | omega | (dsimp only; omega)
      ·
        refine One.callC (i := 3) (H' := fun _ _ => [_, _, _, _]) rfl callable77 (.cons rfl (.cons rfl (.nil))) rfl (fun w' hw' => pick_spec (Cur.lent hc (i := 3) rfl hw') (by omega) (by omega)) (fun _ _ => rfl) (fun x3 at3 sd3 ⟨hxl3, hxh3⟩ ha3 hb3 => ?_)
        refine ⟨(List.Sublist.cons _ (List.Sublist.cons _ (List.Sublist.cons_cons _ (List.nil_sublist _)))), ?_⟩
        refine DOps.take (listed' := #[true, false, true, true, true, false, false, false, false]) 4 rfl (by kernel_rfl) rfl (List.Sublist.cons _ (List.Sublist.cons _ (List.Sublist.cons_cons _ (List.nil_sublist _)))) rfl rfl (Yv.add rfl rfl (by omega)) ?_
        refine DOps.fork2 (l1 := #[true, true, true, true, true, false, false, false, false]) (l2 := #[true, false, true, true, true, true, false, false, false]) 1 5 rfl rfl (by kernel_rfl) rfl rfl rfl rfl ?_ ?_
        ·
          refine One.st rfl (Yv.loadB (i := 1) lay22 rfl rfl rfl rfl).yl ?_
          refine ⟨(List.Sublist.cons _ (List.Sublist.cons _ (List.Sublist.cons_cons _ (List.nil_sublist _)))), ?_⟩
          refine DOps.only (listed' := #[true, true, true, true, true, true, false, false, false]) 5 rfl (by kernel_rfl) rfl rfl ?_
          refine One.buildSliceG (pv := [(0, _)]) (cs := [_]) (fun l => match l with | [a0_0] => [a0_0] | _ => []) rfl el22 (.cons rfl (.nil)) rfl rfl (by kernel_rfl) rfl rfl (fun b3 => ?_)
          refine ⟨(List.Sublist.cons _ (List.Sublist.cons _ (List.Sublist.cons _ (List.Sublist.cons_cons _ (List.nil_sublist _))))), ?_⟩
          refine DOps.only (listed' := #[true, true, true, true, true, true, true, false, false]) 6 rfl (by kernel_rfl) rfl rfl ?_
          refine One.append (enc := intC) (l := o) (l2 := [_]) (m' := (o.length + 1)) (i := 1) (H' := fun A c => [_, _, _, _, _]) rfl el22 zero3 rfl (by decide) rfl rfl rfl (Rd.row (i := 0) rfl) (fun _ => rfl) rfl (by omega) (by omega) (fun _ _ => rfl) (fun A1 c1 => ?_)
          refine ⟨(List.Sublist.cons _ (List.Sublist.cons _ (List.Sublist.cons _ (List.Sublist.cons_cons _ (List.nil_sublist _))))), ?_⟩
          refine DOps.take (listed' := #[true, true, true, true, true, true, true, true, false]) 7 rfl (by kernel_rfl) rfl (List.Sublist.cons _ (List.Sublist.cons _ (List.Sublist.cons _ (List.Sublist.cons_cons _ (List.nil_sublist _))))) rfl rfl (Yv.fieldAddr fld27_1 rfl) ?_
          refine DOps.only (listed' := #[true, true, true, true, true, true, true, true, true]) 8 rfl (by kernel_rfl) rfl rfl ?_
          refine One.store (i := 2) (off := 1) (vs := [_]) (cs' := [_, _]) (H' := [_, _, _, _, _]) lay22 rfl rfl rfl rfl rfl rfl rfl rfl rfl rfl ?_
          refine ⟨(List.Sublist.cons _ (List.Sublist.cons _ (List.Sublist.cons _ (List.Sublist.cons_cons _ (List.nil_sublist _))))), ?_⟩
          refine DOps.done (by kernel_rfl) ?_
          refine Run.quiet (by intro h; cases h) ?_
          refine QOps.st rfl rfl (Yv.move rfl).yl ?_
          refine QOps.st rfl rfl (Yv.sub rfl rfl (by omega)).yl ?_
          refine QOps.st rfl rfl (Yv.assign rfl).yl ?_
          refine QOps.nil ?_
          refine ⟨(z - 1, _, _, _, _, _, _), ?_, ?_, (SubE.cons rfl (SubE.cons rfl (SubE.cons rfl (SubE.cons rfl (SubE.nil _))))), (List.Sublist.cons _ (List.Sublist.refl _))⟩
          · refine ⟨by omega, by omega, ?_, by omega, by omega, ?_⟩ <;> first | rfl | omega | (simp; done) | (simp; omega)
          · first | omega | (dsimp only; omega)
        ·
          refine One.buildSliceG (pv := [(0, _)]) (cs := [_]) (fun l => match l with | [a0_0] => [a0_0] | _ => []) rfl el22 (.cons rfl (.nil)) rfl rfl (by kernel_rfl) rfl rfl (fun b3 => ?_)
          refine ⟨(List.Sublist.cons _ (List.Sublist.cons _ (List.Sublist.cons _ (List.Sublist.cons_cons _ (List.nil_sublist _))))), ?_⟩
          refine DOps.only (listed' := #[true, true, true, true, true, true, false, false, false]) 1 rfl (by kernel_rfl) rfl rfl ?_
          refine One.st rfl (Yv.loadB (i := 2) lay22 rfl rfl rfl rfl).yl ?_
          refine ⟨(List.Sublist.cons _ (List.Sublist.cons _ (List.Sublist.cons _ (List.Sublist.cons_cons _ (List.nil_sublist _))))), ?_⟩
          refine DOps.only (listed' := #[true, true, true, true, true, true, true, false, false]) 6 rfl (by kernel_rfl) rfl rfl ?_
          refine One.append (enc := intC) (l := o) (l2 := [_]) (m' := (o.length + 1)) (i := 1) (H' := fun A c => [_, _, _, _, _]) rfl el22 zero3 rfl (by decide) rfl rfl rfl (Rd.row (i := 0) rfl) (fun _ => rfl) rfl (by omega) (by omega) (fun _ _ => rfl) (fun A1 c1 => ?_)
          refine ⟨(List.Sublist.cons _ (List.Sublist.cons _ (List.Sublist.cons _ (List.Sublist.cons_cons _ (List.nil_sublist _))))), ?_⟩
          refine DOps.take (listed' := #[true, true, true, true, true, true, true, true, false]) 7 rfl (by kernel_rfl) rfl (List.Sublist.cons _ (List.Sublist.cons _ (List.Sublist.cons _ (List.Sublist.cons_cons _ (List.nil_sublist _))))) rfl rfl (Yv.fieldAddr fld27_1 rfl) ?_
          refine DOps.only (listed' := #[true, true, true, true, true, true, true, true, true]) 8 rfl (by kernel_rfl) rfl rfl ?_
          refine One.store (i := 2) (off := 1) (vs := [_]) (cs' := [_, _]) (H' := [_, _, _, _, _]) lay22 rfl rfl rfl rfl rfl rfl rfl rfl rfl rfl ?_
          refine ⟨(List.Sublist.cons _ (List.Sublist.cons _ (List.Sublist.cons _ (List.Sublist.cons_cons _ (List.nil_sublist _))))), ?_⟩
          refine DOps.done (by kernel_rfl) ?_
          refine Run.quiet (by intro h; cases h) ?_
          refine QOps.st rfl rfl (Yv.move rfl).yl ?_
          refine QOps.st rfl rfl (Yv.sub rfl rfl (by omega)).yl ?_
          refine QOps.st rfl rfl (Yv.assign rfl).yl ?_
          refine QOps.nil ?_
          refine ⟨(z - 1, _, _, _, _, _, _), ?_, ?_, (SubE.cons rfl (SubE.cons rfl (SubE.cons rfl (SubE.cons rfl (SubE.nil _))))), (List.Sublist.cons _ (List.Sublist.refl _))⟩
          · refine ⟨by omega, by omega, ?_, by omega, by omega, ?_⟩ <;> first | rfl | omega | (simp; done) | (simp; omega)
          · first | omega | (dsimp only; omega)
    · try replace hc1 := of_decide_eq_false hc1
      refine Run.exit ?_
      refine Run.seq ?_
      refine Run.seq ?_
      refine Run.ops ?_
      refine SOps.st rfl rfl (Yv.move rfl).yl ?_
      refine SOps.one rfl (One.callC (i := 3) (H' := fun _ _ => [_, _, _, _]) rfl callable77 (.cons rfl (.cons rfl (.nil))) rfl (fun w' hw' => pick_spec (Cur.lent hc (i := 3) rfl hw') (by omega) (by omega)) (fun _ _ => rfl) (fun x4 at4 sd4 ⟨hxl4, hxh4⟩ ha4 hb4 => ?_))
      refine SOps.nil ?_
      refine Run.block ?_
      refine Run.seq ?_
      refine Run.quiet (by intro h; cases h) ?_
      refine QOps.st rfl rfl (Yv.eqI rfl rfl).yl ?_
      refine QOps.st rfl rfl (Yv.assign rfl).yl ?_
      refine QOps.nil ?_
      refine Run.cond rfl (fun hc2 => ?_) (fun hc2 => ?_)
      · try replace hc2 := of_decide_eq_true hc2
        refine Run.ops ?_
        refine SOps.st rfl rfl (Yv.move rfl).yl ?_
        refine SOps.one rfl (One.buildSliceG (pv := [(0, _), (1, _)]) (cs := [_, _]) (fun l => match l with | [a0_0, a1_0] => [a0_0, a1_0] | _ => []) rfl el22 (.cons rfl (.cons rfl (.nil))) rfl rfl (by kernel_rfl) rfl rfl (fun b4 => ?_))
        refine SOps.one rfl (One.callC (i := 4) (H' := fun _ _ => [_, _, _, _, _]) rfl callable80 (.cons rfl (.cons rfl (.nil))) rfl (fun w' hw' => among_spec (Cur.lent hc (i := 4) rfl hw') (by omega) (by omega) (l := [0, 4]) ((Rd.row (i := 0) rfl) w' hw') (by simp; try omega) (by first | omega | simp) (by first | omega | simp) (fun hm => HOk.rowNe hw' (i := 4) (j := 0) rfl rfl rfl (by first | exact hm | omega))) (fun _ _ => rfl) (fun x5 at5 sd5 hx5 ha5 hb5 => ?_))
        refine SOps.st rfl rfl (Yv.fieldAddr fld27_0 rfl).yl ?_
        refine SOps.one rfl (One.store (i := 2) (off := 0) (vs := [_]) (cs' := [_, _]) (H' := [_, _, _, _, _]) lay3 rfl rfl rfl rfl rfl rfl rfl rfl rfl rfl ?_)
        refine SOps.nil ?_
        refine Run.seq ?_
        refine Run.ops ?_
        refine SOps.st rfl rfl (Yv.loadBs (i := 2) lay27 rfl rfl rfl rfl).yl ?_
        refine SOps.one rfl (One.store (i := 3) (off := 0) (vs := [_, _]) (cs' := [_, _]) (H' := [_, _, _, _, _]) lay27 rfl rfl rfl rfl rfl rfl rfl rfl rfl rfl ?_)
        refine SOps.nil ?_
        refine Run.ret ?_
        refine retQ.of (.inr rfl) rfl (.cells (i := 3) rfl lay27 rfl rfl .nil) (fun w' hw' => ?_)
        exact retCR_of ((_, o)) (by first | rfl | simp) rfl (by first | omega | (simp; done) | (simp; omega)) (by omega) (by omega) hw'.bel (hw'.ent _ (List.mem_of_getElem? (i := 4) rfl)) (hw'.ent _ (List.mem_of_getElem? (i := 1) rfl)) (HOk.newRow hw' (i := 4) (j := 1) rfl rfl rfl)
      · try replace hc2 := of_decide_eq_false hc2
        refine Run.seq ?_
        refine Run.quiet (by intro h; cases h) ?_
        refine QOps.st rfl rfl (Yv.eqI rfl rfl).yl ?_
        refine QOps.st rfl rfl (Yv.assign rfl).yl ?_
        refine QOps.nil ?_
        refine Run.cond rfl (fun hc3 => ?_) (fun hc3 => ?_)
        · try replace hc3 := of_decide_eq_true hc3
          refine Run.draws (fun H => (((H).eraseIdx 3).eraseIdx 1).eraseIdx 0) (m := 9) (listed := #[false, false, false, false, false, false, false, false, false]) (by kernel_rfl) rfl rfl ?_
          refine DOps.take (listed' := #[true, false, false, false, false, false, false, false, false]) 0 rfl (by kernel_rfl) rfl (List.Sublist.cons _ (List.Sublist.cons _ (List.Sublist.cons_cons _ (List.nil_sublist _)))) rfl rfl (Yv.fieldAddr fld27_1 rfl) ?_
          refine DOps.take (listed' := #[true, false, true, false, false, false, false, false, false]) 2 rfl (by kernel_rfl) rfl (List.Sublist.cons _ (List.Sublist.cons _ (List.Sublist.cons_cons _ (List.nil_sublist _)))) rfl rfl (Yv.move rfl) ?_
          refine DOps.fork2 (l1 := #[true, true, true, false, false, false, false, false, false]) (l2 := #[true, false, true, true, false, false, false, false, false]) 1 3 rfl rfl (by kernel_rfl) rfl rfl rfl rfl ?_ ?_
          ·
            refine One.st rfl (Yv.loadB (i := 1) lay22 rfl rfl rfl rfl).yl ?_
            refine ⟨(List.Sublist.cons _ (List.Sublist.cons _ (List.Sublist.cons_cons _ (List.nil_sublist _)))), ?_⟩
            refine DOps.only (listed' := #[true, true, true, true, false, false, false, false, false]) 3 rfl (by kernel_rfl) rfl rfl ?_
            refine One.buildSliceG (pv := [(0, _), (1, _), (2, _)]) (cs := [_, _, _]) (fun l => match l with | [a0_0, a1_0, a2_0] => [a0_0, a1_0, a2_0] | _ => []) rfl el22 (.cons rfl (.cons rfl (.cons rfl (.nil)))) rfl rfl (by kernel_rfl) rfl rfl (fun b5 => ?_)
            refine ⟨(List.Sublist.cons _ (List.Sublist.cons _ (List.Sublist.cons _ (List.Sublist.cons_cons _ (List.nil_sublist _))))), ?_⟩
            refine DOps.only (listed' := #[true, true, true, true, true, false, false, false, false]) 4 rfl (by kernel_rfl) rfl rfl ?_
            refine One.callC (i := 4) (H' := fun _ _ => [_, _, _, _, _]) rfl callable80 (.cons rfl (.cons rfl (.nil))) rfl (fun w' hw' => among_spec (Cur.lent hc (i := 4) rfl hw') (by omega) (by omega) (l := [0, 6, 7]) ((Rd.row (i := 0) rfl) w' hw') (by simp; try omega) (by first | omega | simp) (by first | omega | simp) (fun hm => HOk.rowNe hw' (i := 4) (j := 0) rfl rfl rfl (by first | exact hm | omega))) (fun _ _ => rfl) (fun x6 at6 sd6 hx6 ha6 hb6 => ?_)
            refine ⟨(List.Sublist.cons _ (List.Sublist.cons _ (List.Sublist.cons _ (List.Sublist.cons_cons _ (List.nil_sublist _))))), ?_⟩
            refine DOps.only (listed' := #[true, true, true, true, true, true, false, false, false]) 5 rfl (by kernel_rfl) rfl rfl ?_
            refine One.buildSliceG (pv := [(0, _)]) (cs := [_]) (fun l => match l with | [a0_0] => [a0_0] | _ => []) rfl el22 (.cons rfl (.nil)) rfl rfl (by kernel_rfl) rfl rfl (fun b6 => ?_)
            refine ⟨(List.Sublist.cons _ (List.Sublist.cons _ (List.Sublist.cons _ (List.Sublist.cons _ (List.Sublist.cons_cons _ (List.nil_sublist _)))))), ?_⟩
            refine DOps.only (listed' := #[true, true, true, true, true, true, true, false, false]) 6 rfl (by kernel_rfl) rfl rfl ?_
            refine One.append (enc := intC) (l := o) (l2 := [_]) (m' := (o.length + 1)) (i := 2) (H' := fun A c => [_, _, _, _, _, _]) rfl el22 zero3 rfl (by decide) rfl rfl rfl (Rd.row (i := 0) rfl) (fun _ => rfl) rfl (by omega) (by omega) (fun _ _ => rfl) (fun A2 c2 => ?_)
            refine ⟨(List.Sublist.cons _ (List.Sublist.cons _ (List.Sublist.cons _ (List.Sublist.cons _ (List.Sublist.cons_cons _ (List.nil_sublist _)))))), ?_⟩
            refine DOps.take (listed' := #[true, true, true, true, true, true, true, true, false]) 7 rfl (by kernel_rfl) rfl (List.Sublist.cons _ (List.Sublist.cons _ (List.Sublist.cons _ (List.Sublist.cons _ (List.Sublist.cons_cons _ (List.nil_sublist _)))))) rfl rfl (Yv.fieldAddr fld27_1 rfl) ?_
            refine DOps.only (listed' := #[true, true, true, true, true, true, true, true, true]) 8 rfl (by kernel_rfl) rfl rfl ?_
            refine One.store (i := 3) (off := 1) (vs := [_]) (cs' := [_, _]) (H' := [_, _, _, _, _, _]) lay22 rfl rfl rfl rfl rfl rfl rfl rfl rfl rfl ?_
            refine ⟨(List.Sublist.cons _ (List.Sublist.cons _ (List.Sublist.cons _ (List.Sublist.cons _ (List.Sublist.cons_cons _ (List.nil_sublist _)))))), ?_⟩
            refine DOps.done (by kernel_rfl) ?_
            refine Run.seq ?_
            refine Run.ops ?_
            refine SOps.st rfl rfl (Yv.loadBs (i := 3) lay27 rfl rfl rfl rfl).yl ?_
            refine SOps.one rfl (One.store (i := 4) (off := 0) (vs := [_, _]) (cs' := [_, _]) (H' := [_, _, _, _, _, _]) lay27 rfl rfl rfl rfl rfl rfl rfl rfl rfl rfl ?_)
            refine SOps.nil ?_
            refine Run.ret ?_
            refine retQ.of (.inr rfl) rfl (.cells (i := 4) rfl lay27 rfl rfl .nil) (fun w' hw' => ?_)
            exact retCR_of ((_, (o ++ [_]))) (by first | rfl | simp) rfl (by first | omega | (simp; done) | (simp; omega)) (by omega) (by omega) hw'.bel (hw'.ent _ (List.mem_of_getElem? (i := 5) rfl)) (hw'.ent _ (List.mem_of_getElem? (i := 2) rfl)) (HOk.newRow hw' (i := 5) (j := 2) rfl rfl rfl)
          ·
            refine One.buildSliceG (pv := [(0, _), (1, _), (2, _)]) (cs := [_, _, _]) (fun l => match l with | [a0_0, a1_0, a2_0] => [a0_0, a1_0, a2_0] | _ => []) rfl el22 (.cons rfl (.cons rfl (.cons rfl (.nil)))) rfl rfl (by kernel_rfl) rfl rfl (fun b5 => ?_)
            refine ⟨(List.Sublist.cons _ (List.Sublist.cons _ (List.Sublist.cons _ (List.Sublist.cons_cons _ (List.nil_sublist _))))), ?_⟩
            refine DOps.fork2 (l1 := #[true, true, true, true, false, false, false, false, false]) (l2 := #[true, false, true, true, true, false, false, false, false]) 1 4 rfl rfl (by kernel_rfl) rfl rfl rfl rfl ?_ ?_
            ·
              refine One.st rfl (Yv.loadB (i := 2) lay22 rfl rfl rfl rfl).yl ?_
              refine ⟨(List.Sublist.cons _ (List.Sublist.cons _ (List.Sublist.cons _ (List.Sublist.cons_cons _ (List.nil_sublist _))))), ?_⟩
              refine DOps.only (listed' := #[true, true, true, true, true, false, false, false, false]) 4 rfl (by kernel_rfl) rfl rfl ?_
              refine One.callC (i := 4) (H' := fun _ _ => [_, _, _, _, _]) rfl callable80 (.cons rfl (.cons rfl (.nil))) rfl (fun w' hw' => among_spec (Cur.lent hc (i := 4) rfl hw') (by omega) (by omega) (l := [0, 6, 7]) ((Rd.row (i := 0) rfl) w' hw') (by simp; try omega) (by first | omega | simp) (by first | omega | simp) (fun hm => HOk.rowNe hw' (i := 4) (j := 0) rfl rfl rfl (by first | exact hm | omega))) (fun _ _ => rfl) (fun x6 at6 sd6 hx6 ha6 hb6 => ?_)
              refine ⟨(List.Sublist.cons _ (List.Sublist.cons _ (List.Sublist.cons _ (List.Sublist.cons_cons _ (List.nil_sublist _))))), ?_⟩
              refine DOps.only (listed' := #[true, true, true, true, true, true, false, false, false]) 5 rfl (by kernel_rfl) rfl rfl ?_
              refine One.buildSliceG (pv := [(0, _)]) (cs := [_]) (fun l => match l with | [a0_0] => [a0_0] | _ => []) rfl el22 (.cons rfl (.nil)) rfl rfl (by kernel_rfl) rfl rfl (fun b6 => ?_)
              refine ⟨(List.Sublist.cons _ (List.Sublist.cons _ (List.Sublist.cons _ (List.Sublist.cons _ (List.Sublist.cons_cons _ (List.nil_sublist _)))))), ?_⟩
              refine DOps.only (listed' := #[true, true, true, true, true, true, true, false, false]) 6 rfl (by kernel_rfl) rfl rfl ?_
              refine One.append (enc := intC) (l := o) (l2 := [_]) (m' := (o.length + 1)) (i := 2) (H' := fun A c => [_, _, _, _, _, _]) rfl el22 zero3 rfl (by decide) rfl rfl rfl (Rd.row (i := 0) rfl) (fun _ => rfl) rfl (by omega) (by omega) (fun _ _ => rfl) (fun A2 c2 => ?_)
              refine ⟨(List.Sublist.cons _ (List.Sublist.cons _ (List.Sublist.cons _ (List.Sublist.cons _ (List.Sublist.cons_cons _ (List.nil_sublist _)))))), ?_⟩
              refine DOps.take (listed' := #[true, true, true, true, true, true, true, true, false]) 7 rfl (by kernel_rfl) rfl (List.Sublist.cons _ (List.Sublist.cons _ (List.Sublist.cons _ (List.Sublist.cons _ (List.Sublist.cons_cons _ (List.nil_sublist _)))))) rfl rfl (Yv.fieldAddr fld27_1 rfl) ?_
              refine DOps.only (listed' := #[true, true, true, true, true, true, true, true, true]) 8 rfl (by kernel_rfl) rfl rfl ?_
              refine One.store (i := 3) (off := 1) (vs := [_]) (cs' := [_, _]) (H' := [_, _, _, _, _, _]) lay22 rfl rfl rfl rfl rfl rfl rfl rfl rfl rfl ?_
              refine ⟨(List.Sublist.cons _ (List.Sublist.cons _ (List.Sublist.cons _ (List.Sublist.cons _ (List.Sublist.cons_cons _ (List.nil_sublist _)))))), ?_⟩
              refine DOps.done (by kernel_rfl) ?_
              refine Run.seq ?_
              refine Run.ops ?_
              refine SOps.st rfl rfl (Yv.loadBs (i := 3) lay27 rfl rfl rfl rfl).yl ?_
              refine SOps.one rfl (One.store (i := 4) (off := 0) (vs := [_, _]) (cs' := [_, _]) (H' := [_, _, _, _, _, _]) lay27 rfl rfl rfl rfl rfl rfl rfl rfl rfl rfl ?_)
              refine SOps.nil ?_
              refine Run.ret ?_
              refine retQ.of (.inr rfl) rfl (.cells (i := 4) rfl lay27 rfl rfl .nil) (fun w' hw' => ?_)
              exact retCR_of ((_, (o ++ [_]))) (by first | rfl | simp) rfl (by first | omega | (simp; done) | (simp; omega)) (by omega) (by omega) hw'.bel (hw'.ent _ (List.mem_of_getElem? (i := 5) rfl)) (hw'.ent _ (List.mem_of_getElem? (i := 2) rfl)) (HOk.newRow hw' (i := 5) (j := 2) rfl rfl rfl)
            ·
              refine One.callC (i := 4) (H' := fun _ _ => [_, _, _, _, _]) rfl callable80 (.cons rfl (.cons rfl (.nil))) rfl (fun w' hw' => among_spec (Cur.lent hc (i := 4) rfl hw') (by omega) (by omega) (l := [0, 6, 7]) ((Rd.row (i := 0) rfl) w' hw') (by simp; try omega) (by first | omega | simp) (by first | omega | simp) (fun hm => HOk.rowNe hw' (i := 4) (j := 0) rfl rfl rfl (by first | exact hm | omega))) (fun _ _ => rfl) (fun x6 at6 sd6 hx6 ha6 hb6 => ?_)
              refine ⟨(List.Sublist.cons _ (List.Sublist.cons _ (List.Sublist.cons _ (List.Sublist.cons_cons _ (List.nil_sublist _))))), ?_⟩
              refine DOps.fork2 (l1 := #[true, true, true, true, true, false, false, false, false]) (l2 := #[true, false, true, true, true, true, false, false, false]) 1 5 rfl rfl (by kernel_rfl) rfl rfl rfl rfl ?_ ?_
              ·
                refine One.st rfl (Yv.loadB (i := 2) lay22 rfl rfl rfl rfl).yl ?_
                refine ⟨(List.Sublist.cons _ (List.Sublist.cons _ (List.Sublist.cons _ (List.Sublist.cons_cons _ (List.nil_sublist _))))), ?_⟩
                refine DOps.only (listed' := #[true, true, true, true, true, true, false, false, false]) 5 rfl (by kernel_rfl) rfl rfl ?_
                refine One.buildSliceG (pv := [(0, _)]) (cs := [_]) (fun l => match l with | [a0_0] => [a0_0] | _ => []) rfl el22 (.cons rfl (.nil)) rfl rfl (by kernel_rfl) rfl rfl (fun b6 => ?_)
                refine ⟨(List.Sublist.cons _ (List.Sublist.cons _ (List.Sublist.cons _ (List.Sublist.cons _ (List.Sublist.cons_cons _ (List.nil_sublist _)))))), ?_⟩
                refine DOps.only (listed' := #[true, true, true, true, true, true, true, false, false]) 6 rfl (by kernel_rfl) rfl rfl ?_
                refine One.append (enc := intC) (l := o) (l2 := [_]) (m' := (o.length + 1)) (i := 2) (H' := fun A c => [_, _, _, _, _, _]) rfl el22 zero3 rfl (by decide) rfl rfl rfl (Rd.row (i := 0) rfl) (fun _ => rfl) rfl (by omega) (by omega) (fun _ _ => rfl) (fun A2 c2 => ?_)
                refine ⟨(List.Sublist.cons _ (List.Sublist.cons _ (List.Sublist.cons _ (List.Sublist.cons _ (List.Sublist.cons_cons _ (List.nil_sublist _)))))), ?_⟩
                refine DOps.take (listed' := #[true, true, true, true, true, true, true, true, false]) 7 rfl (by kernel_rfl) rfl (List.Sublist.cons _ (List.Sublist.cons _ (List.Sublist.cons _ (List.Sublist.cons _ (List.Sublist.cons_cons _ (List.nil_sublist _)))))) rfl rfl (Yv.fieldAddr fld27_1 rfl) ?_
                refine DOps.only (listed' := #[true, true, true, true, true, true, true, true, true]) 8 rfl (by kernel_rfl) rfl rfl ?_
                refine One.store (i := 3) (off := 1) (vs := [_]) (cs' := [_, _]) (H' := [_, _, _, _, _, _]) lay22 rfl rfl rfl rfl rfl rfl rfl rfl rfl rfl ?_
                refine ⟨(List.Sublist.cons _ (List.Sublist.cons _ (List.Sublist.cons _ (List.Sublist.cons _ (List.Sublist.cons_cons _ (List.nil_sublist _)))))), ?_⟩
                refine DOps.done (by kernel_rfl) ?_
                refine Run.seq ?_
                refine Run.ops ?_
                refine SOps.st rfl rfl (Yv.loadBs (i := 3) lay27 rfl rfl rfl rfl).yl ?_
                refine SOps.one rfl (One.store (i := 4) (off := 0) (vs := [_, _]) (cs' := [_, _]) (H' := [_, _, _, _, _, _]) lay27 rfl rfl rfl rfl rfl rfl rfl rfl rfl rfl ?_)
                refine SOps.nil ?_
                refine Run.ret ?_
                refine retQ.of (.inr rfl) rfl (.cells (i := 4) rfl lay27 rfl rfl .nil) (fun w' hw' => ?_)
                exact retCR_of ((_, (o ++ [_]))) (by first | rfl | simp) rfl (by first | omega | (simp; done) | (simp; omega)) (by omega) (by omega) hw'.bel (hw'.ent _ (List.mem_of_getElem? (i := 5) rfl)) (hw'.ent _ (List.mem_of_getElem? (i := 2) rfl)) (HOk.newRow hw' (i := 5) (j := 2) rfl rfl rfl)
              ·
                refine One.buildSliceG (pv := [(0, _)]) (cs := [_]) (fun l => match l with | [a0_0] => [a0_0] | _ => []) rfl el22 (.cons rfl (.nil)) rfl rfl (by kernel_rfl) rfl rfl (fun b6 => ?_)
                refine ⟨(List.Sublist.cons _ (List.Sublist.cons _ (List.Sublist.cons _ (List.Sublist.cons _ (List.Sublist.cons_cons _ (List.nil_sublist _)))))), ?_⟩
                refine DOps.only (listed' := #[true, true, true, true, true, true, false, false, false]) 1 rfl (by kernel_rfl) rfl rfl ?_
                refine One.st rfl (Yv.loadB (i := 3) lay22 rfl rfl rfl rfl).yl ?_
                refine ⟨(List.Sublist.cons _ (List.Sublist.cons _ (List.Sublist.cons _ (List.Sublist.cons _ (List.Sublist.cons_cons _ (List.nil_sublist _)))))), ?_⟩
                refine DOps.only (listed' := #[true, true, true, true, true, true, true, false, false]) 6 rfl (by kernel_rfl) rfl rfl ?_
                refine One.append (enc := intC) (l := o) (l2 := [_]) (m' := (o.length + 1)) (i := 2) (H' := fun A c => [_, _, _, _, _, _]) rfl el22 zero3 rfl (by decide) rfl rfl rfl (Rd.row (i := 0) rfl) (fun _ => rfl) rfl (by omega) (by omega) (fun _ _ => rfl) (fun A2 c2 => ?_)
                refine ⟨(List.Sublist.cons _ (List.Sublist.cons _ (List.Sublist.cons _ (List.Sublist.cons _ (List.Sublist.cons_cons _ (List.nil_sublist _)))))), ?_⟩
                refine DOps.take (listed' := #[true, true, true, true, true, true, true, true, false]) 7 rfl (by kernel_rfl) rfl (List.Sublist.cons _ (List.Sublist.cons _ (List.Sublist.cons _ (List.Sublist.cons _ (List.Sublist.cons_cons _ (List.nil_sublist _)))))) rfl rfl (Yv.fieldAddr fld27_1 rfl) ?_
                refine DOps.only (listed' := #[true, true, true, true, true, true, true, true, true]) 8 rfl (by kernel_rfl) rfl rfl ?_
                refine One.store (i := 3) (off := 1) (vs := [_]) (cs' := [_, _]) (H' := [_, _, _, _, _, _]) lay22 rfl rfl rfl rfl rfl rfl rfl rfl rfl rfl ?_
                refine ⟨(List.Sublist.cons _ (List.Sublist.cons _ (List.Sublist.cons _ (List.Sublist.cons _ (List.Sublist.cons_cons _ (List.nil_sublist _)))))), ?_⟩
                refine DOps.done (by kernel_rfl) ?_
                refine Run.seq ?_
                refine Run.ops ?_
                refine SOps.st rfl rfl (Yv.loadBs (i := 3) lay27 rfl rfl rfl rfl).yl ?_
                refine SOps.one rfl (One.store (i := 4) (off := 0) (vs := [_, _]) (cs' := [_, _]) (H' := [_, _, _, _, _, _]) lay27 rfl rfl rfl rfl rfl rfl rfl rfl rfl rfl ?_)
                refine SOps.nil ?_
                refine Run.ret ?_
                refine retQ.of (.inr rfl) rfl (.cells (i := 4) rfl lay27 rfl rfl .nil) (fun w' hw' => ?_)
                exact retCR_of ((_, (o ++ [_]))) (by first | rfl | simp) rfl (by first | omega | (simp; done) | (simp; omega)) (by omega) (by omega) hw'.bel (hw'.ent _ (List.mem_of_getElem? (i := 5) rfl)) (hw'.ent _ (List.mem_of_getElem? (i := 2) rfl)) (HOk.newRow hw' (i := 5) (j := 2) rfl rfl rfl)
        · try replace hc3 := of_decide_eq_false hc3
          refine Run.seq ?_
          refine Run.quiet (by intro h; cases h) ?_
          refine QOps.st rfl rfl (Yv.eqI rfl rfl).yl ?_
          refine QOps.st rfl rfl (Yv.assign rfl).yl ?_
          refine QOps.nil ?_
          refine Run.cond rfl (fun hc4 => ?_) (fun hc4 => ?_)
          · try replace hc4 := of_decide_eq_true hc4
            refine Run.ops ?_
            refine SOps.one rfl (One.buildSliceG (pv := []) (cs := []) (fun _ => []) rfl el22 .nil rfl rfl (by kernel_rfl) rfl rfl (fun b7 => ?_))
            refine SOps.st rfl rfl (Yv.fieldAddr fld27_1 rfl).yl ?_
            refine SOps.one rfl (One.store (i := 2) (off := 1) (vs := [_]) (cs' := [_, _]) (H' := [_, _, _, _, _]) lay22 rfl rfl rfl rfl rfl rfl rfl rfl rfl rfl ?_)
            refine SOps.nil ?_
            refine Run.seq ?_
            refine Run.ops ?_
            refine SOps.st rfl rfl (Yv.loadBs (i := 2) lay27 rfl rfl rfl rfl).yl ?_
            refine SOps.one rfl (One.store (i := 3) (off := 0) (vs := [_, _]) (cs' := [_, _]) (H' := [_, _, _, _, _]) lay27 rfl rfl rfl rfl rfl rfl rfl rfl rfl rfl ?_)
            refine SOps.nil ?_
            refine Run.ret ?_
            refine retQ.of (.inr rfl) rfl (.cells (i := 3) rfl lay27 rfl rfl .nil) (fun w' hw' => ?_)
            exact retCR_of ((_, [])) (by first | rfl | simp) rfl (by first | omega | (simp; done) | (simp; omega)) (by omega) (by omega) hw'.bel (hw'.ent _ (List.mem_of_getElem? (i := 4) rfl)) (hw'.ent _ (List.mem_of_getElem? (i := 0) rfl)) (HOk.newRow hw' (i := 4) (j := 0) rfl rfl rfl)
          · try replace hc4 := of_decide_eq_false hc4
            refine Run.seq ?_
            refine Run.quiet (by intro h; cases h) ?_
            refine QOps.st rfl rfl (Yv.eqI rfl rfl).yl ?_
            refine QOps.st rfl rfl (Yv.assign rfl).yl ?_
            refine QOps.nil ?_
            refine Run.cond rfl (fun hc5 => ?_) (fun hc5 => ?_)
            · try replace hc5 := of_decide_eq_true hc5
              refine Run.block ?_
              refine Run.loop (S := Nat × List Int × Option Addr × Nat × Int × Int) (fun s => match s with | (nn, o, A2, c2, a3, s3) => nn ≤ 10 ∧ at_ ≤ a3 ∧ a3 ≤ at_ + 30 + 2 * (nn : Int) ∧ o.length = nn) (fun s => match s with | (nn, o, A2, c2, a3, s3) => [(0, .pointer (some ⟨g, 0, none⟩)), (2, .pointer (some ⟨b1, 0, none⟩)), (3, .pointer (some ⟨b2, 0, none⟩))]) (fun s => match s with | (nn, o, A2, c2, a3, s3) => [.row A2 c2 3 1 nn (o.flatMap intC), .blk b2 27 [.int .i64 (1 + x1), .slice A2 nn c2], .blk b1 27 [.int .i64 0, .slice none 0 0], .blk g 70 [.slice A m c, .int .i64 a3, .int .u64 s3]]) (fun s => match s with | (nn, o, A2, c2, a3, s3) => 10 - nn) (_, o, A2, c2, _, _) ?_ (SubE.cons rfl (SubE.cons rfl (SubE.cons rfl (SubE.nil _)))) (List.Sublist.refl _) ?_
              · refine ⟨by omega, by omega, by omega, rfl⟩
              · rintro ⟨nn, o, A2, c2, a3, s3⟩ ⟨hk12, ha3l, ha3h, hnn⟩
                show Run _ _ _ _ _ [(0, .pointer (some ⟨g, 0, none⟩)), (2, .pointer (some ⟨b1, 0, none⟩)), (3, .pointer (some ⟨b2, 0, none⟩))] [.row A2 c2 3 1 nn (o.flatMap intC), .blk b2 27 [.int .i64 (1 + x1), .slice A2 nn c2], .blk b1 27 [.int .i64 0, .slice none 0 0], .blk g 70 [.slice A m c, .int .i64 a3, .int .u64 s3]] _
                subst hnn
                refine Run.seq ?_
                refine Run.seq ?_
                refine Run.draws (fun H => (H).eraseIdx 3) (m := 7) (listed := #[false, false, false, false, false, false, false]) (by kernel_rfl) rfl rfl ?_
                refine DOps.take (listed' := #[true, false, false, false, false, false, false]) 0 rfl (by kernel_rfl) rfl (List.Sublist.cons_cons _ (List.Sublist.cons_cons _ (List.Sublist.cons_cons _ (List.nil_sublist _)))) rfl rfl (Yv.fieldAddr fld27_1 rfl) ?_
                refine DOps.take (listed' := #[true, true, false, false, false, false, false]) 1 rfl (by kernel_rfl) rfl (List.Sublist.cons_cons _ (List.Sublist.cons_cons _ (List.Sublist.cons_cons _ (List.nil_sublist _)))) rfl rfl (Yv.loadB (i := 1) lay22 rfl rfl rfl rfl) ?_
                refine DOps.take (listed' := #[true, true, true, false, false, false, false]) 2 rfl (by kernel_rfl) rfl (List.Sublist.cons_cons _ (List.Sublist.cons_cons _ (List.Sublist.cons_cons _ (List.nil_sublist _)))) rfl rfl (Yv.lenS el22s rfl) ?_
                refine DOps.take (listed' := #[true, true, true, true, false, false, false]) 3 rfl (by kernel_rfl) rfl (List.Sublist.cons_cons _ (List.Sublist.cons_cons _ (List.Sublist.cons_cons _ (List.nil_sublist _)))) rfl rfl (Yv.move rfl) ?_
                refine DOps.only (listed' := #[true, true, true, true, true, false, false]) 4 rfl (by kernel_rfl) rfl rfl ?_
                refine One.callC (i := 3) (H' := fun _ _ => [_, _, _, _]) rfl callable77 (.cons rfl (.cons rfl (.nil))) rfl (fun w' hw' => pick_spec (Cur.lent hc (i := 3) rfl hw') (by omega) (by omega)) (fun _ _ => rfl) (fun x7 at7 sd7 ⟨hxl7, hxh7⟩ ha7 hb7 => ?_)
                refine ⟨(List.Sublist.cons_cons _ (List.Sublist.cons_cons _ (List.Sublist.cons_cons _ (List.nil_sublist _)))), ?_⟩
                refine DOps.take (listed' := #[true, true, true, true, true, true, false]) 5 rfl (by kernel_rfl) rfl (List.Sublist.cons_cons _ (List.Sublist.cons_cons _ (List.Sublist.cons_cons _ (List.nil_sublist _)))) rfl rfl (Yv.add rfl rfl (by omega)) ?_
                refine DOps.take (listed' := #[true, true, true, true, true, true, true]) 6 rfl (by kernel_rfl) rfl (List.Sublist.cons_cons _ (List.Sublist.cons_cons _ (List.Sublist.cons_cons _ (List.nil_sublist _)))) rfl rfl (Yv.lss rfl rfl) ?_
                refine DOps.done (by kernel_rfl) ?_
                refine Run.cond rfl (fun hc6 => ?_) (fun hc6 => ?_)
                · try replace hc6 := of_decide_eq_true hc6
                  refine Run.skip ?_
                  refine Run.block ?_
                  refine Run.ops ?_
                  refine SOps.st rfl rfl (Yv.fieldAddr fld27_1 rfl).yl ?_
                  refine SOps.st rfl rfl (Yv.loadB (i := 1) lay22 rfl rfl rfl rfl).yl ?_
                  refine SOps.one rfl (One.buildSliceG (pv := [(0, _)]) (cs := [_]) (fun l => match l with | [a0_0] => [a0_0] | _ => []) rfl el22 (.cons rfl (.nil)) rfl rfl (by kernel_rfl) rfl rfl (fun b8 => ?_))
                  refine SOps.one rfl (One.append (enc := intC) (l := o) (l2 := [_]) (m' := (o.length + 1)) (i := 1) (H' := fun A c => [_, _, _, _, _]) rfl el22 zero3 rfl (by decide) rfl rfl rfl (Rd.row (i := 0) rfl) (fun _ => rfl) rfl (by omega) (by omega) (fun _ _ => rfl) (fun A3 c3 => ?_))
                  refine SOps.st rfl rfl (Yv.fieldAddr fld27_1 rfl).yl ?_
                  refine SOps.one rfl (One.store (i := 2) (off := 1) (vs := [_]) (cs' := [_, _]) (H' := [_, _, _, _, _]) lay22 rfl rfl rfl rfl rfl rfl rfl rfl rfl rfl ?_)
                  refine SOps.nil ?_
                  refine ⟨(_, _, _, _, _, _), ?_, ?_, (SubE.cons rfl (SubE.cons rfl (SubE.cons rfl (SubE.nil _)))), (List.Sublist.cons _ (List.Sublist.refl _))⟩
                  · refine ⟨by omega, by omega, by omega, ?_⟩ <;> first | rfl | omega | (simp; done) | (simp; omega)
                  · first | omega | (dsimp only; omega)
                · try replace hc6 := of_decide_eq_false hc6
                  refine Run.exit ?_
                  refine Run.seq ?_
                  refine Run.ops ?_
                  refine SOps.st rfl rfl (Yv.loadBs (i := 1) lay27 rfl rfl rfl rfl).yl ?_
                  refine SOps.one rfl (One.store (i := 2) (off := 0) (vs := [_, _]) (cs' := [_, _]) (H' := [_, _, _, _]) lay27 rfl rfl rfl rfl rfl rfl rfl rfl rfl rfl ?_)
                  refine SOps.nil ?_
                  refine Run.ret ?_
                  refine retQ.of (.inr rfl) rfl (.cells (i := 2) rfl lay27 rfl rfl .nil) (fun w' hw' => ?_)
                  exact retCR_of ((_, o)) (by first | rfl | simp) rfl (by first | omega | (simp; done) | (simp; omega)) (by omega) (by omega) hw'.bel (hw'.ent _ (List.mem_of_getElem? (i := 3) rfl)) (hw'.ent _ (List.mem_of_getElem? (i := 0) rfl)) (HOk.newRow hw' (i := 3) (j := 0) rfl rfl rfl)
            · try replace hc5 := of_decide_eq_false hc5
              refine Run.skip ?_
              refine Run.seq ?_
              refine Run.ops ?_
              refine SOps.st rfl rfl (Yv.loadBs (i := 1) lay27 rfl rfl rfl rfl).yl ?_
              refine SOps.one rfl (One.store (i := 2) (off := 0) (vs := [_, _]) (cs' := [_, _]) (H' := [_, _, _, _]) lay27 rfl rfl rfl rfl rfl rfl rfl rfl rfl rfl ?_)
              refine SOps.nil ?_
              refine Run.ret ?_
              refine retQ.of (.inr rfl) rfl (.cells (i := 2) rfl lay27 rfl rfl .nil) (fun w' hw' => ?_)
              exact retCR_of ((_, o)) (by first | rfl | simp) rfl (by first | omega | (simp; done) | (simp; omega)) (by omega) (by omega) hw'.bel (hw'.ent _ (List.mem_of_getElem? (i := 3) rfl)) (hw'.ent _ (List.mem_of_getElem? (i := 0) rfl)) (HOk.newRow hw' (i := 3) (j := 0) rfl rfl rfl)
end Go.Proofs.Ytfpglglolhlegaa
