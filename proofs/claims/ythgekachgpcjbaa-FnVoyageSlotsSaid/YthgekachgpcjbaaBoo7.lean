/- Bookings are drawn. Conditions: none. -/
import Derived.Test.YthgekachgpcjbaaBoo6
namespace Go.Proofs.Ythgekachgpcjbaa
open Go.RowKit
set_option maxRecDepth 100000
theorem next_spec {w : World} {g m c : Nat} {A : Option Addr} {xs : List UInt8} {at_ sd : Int} (hc : Cur w 80 g A m c xs at_ sd) (h0 : 0 ≤ at_) (h1 : at_ ≤ 9000000000000000000) : Calls Try.prog 91 #[.pointer (some ⟨g, 0, none⟩)] w (RetC w 80 g (.slice A m c) at_ 1 (fun (x : Int) => .int .i64 x) (fun x => 0 ≤ x ∧ x ≤ 255)) := by
  have hxl : xs.length = m := by have := hc.code.len; rw [flat_len byteC_len] at this; omega
  refine calls_of_run (vs := [_]) (L := [(0, _)]) (n := 62) (F := [g]) (H := [_]) Try.func91 rfl rfl rfl rfl (HOk.lend hc) ?_
  refine Run.seq ?_
  refine Run.quiet (by intro h; cases h) ?_
  refine QOps.st rfl rfl (Yv.assign rfl).yl ?_
  refine QOps.nil ?_
  refine Run.seq ?_
  refine Run.quiet (by intro h; cases h) ?_
  refine QOps.st rfl rfl (Yv.assign rfl).yl ?_
  refine QOps.nil ?_
  refine Run.seq ?_
  refine Run.seq ?_
  refine Run.quiet (fun _ => ⟨by kernel_rfl, by kernel_rfl⟩) ?_
  refine QOps.st rfl rfl (Yv.move rfl).yl ?_
  refine QOps.st rfl rfl (Yv.nilCheck rfl).yl ?_
  refine QOps.st rfl rfl (Yv.fieldAddr fld80_1 rfl).yl ?_
  refine QOps.st rfl rfl (Yv.loadB (i := 0) lay3 rfl rfl rfl rfl).yl ?_
  refine QOps.st rfl rfl (Yv.move rfl).yl ?_
  refine QOps.st rfl rfl (Yv.nilCheck rfl).yl ?_
  refine QOps.st rfl rfl (Yv.fieldAddr fld80_0 rfl).yl ?_
  refine QOps.st rfl rfl (Yv.loadB (i := 0) lay44 rfl rfl rfl rfl).yl ?_
  refine QOps.st rfl rfl (Yv.lenS el44s rfl).yl ?_
  refine QOps.st rfl rfl (Yv.lss rfl rfl).yl ?_
  refine QOps.nil ?_
  refine Run.cond rfl (fun hc1 => ?_) (fun hc1 => ?_)
  · try replace hc1 := of_decide_eq_true hc1
    refine Run.quiet (fun _ => ⟨by kernel_rfl, by kernel_rfl⟩) ?_
    refine QOps.st rfl rfl (Yv.move rfl).yl ?_
    refine QOps.st rfl rfl (Yv.nilCheck rfl).yl ?_
    refine QOps.st rfl rfl (Yv.fieldAddr fld80_0 rfl).yl ?_
    refine QOps.st rfl rfl (Yv.loadB (i := 0) lay44 rfl rfl rfl rfl).yl ?_
    refine QOps.st rfl rfl (Yv.move rfl).yl ?_
    refine QOps.st rfl rfl (Yv.nilCheck rfl).yl ?_
    refine QOps.st rfl rfl (Yv.fieldAddr fld80_1 rfl).yl ?_
    refine QOps.st rfl rfl (Yv.loadB (i := 0) lay3 rfl rfl rfl rfl).yl ?_
    refine QOps.st rfl rfl (Yv.indexAddr at_.toNat el44 rfl rfl (by omega) hc.rd (by omega)).yl ?_
    refine QOps.st rfl rfl (Yv.loadE lay5 rfl byteC_len hc.rd (by omega) rfl).yl ?_
    refine QOps.st rfl rfl (Yv.conv int5 int3 rfl).yl ?_
    refine QOps.st rfl rfl (Yv.assign rfl).yl ?_
    refine QOps.nil ?_
    refine Run.seq ?_
    refine Run.ops ?_
    refine SOps.st rfl rfl (Yv.move rfl).yl ?_
    refine SOps.st rfl rfl (Yv.nilCheck rfl).yl ?_
    refine SOps.st rfl rfl (Yv.fieldAddr fld80_1 rfl).yl ?_
    refine SOps.st rfl rfl (Yv.loadB (i := 0) lay3 rfl rfl rfl rfl).yl ?_
    refine SOps.st rfl rfl (Yv.add rfl rfl (by omega)).yl ?_
    refine SOps.st rfl rfl (Yv.nilCheck rfl).yl ?_
    refine SOps.st rfl rfl (Yv.fieldAddr fld80_1 rfl).yl ?_
    refine SOps.one rfl (One.store (i := 0) (off := 1) (vs := [_]) (cs' := [_, _, _]) (H' := [_]) lay3 rfl rfl rfl rfl rfl rfl rfl rfl rfl rfl ?_)
    refine SOps.nil ?_
    refine Run.seq ?_
    refine Run.ops ?_
    refine SOps.st rfl rfl (Yv.move rfl).yl ?_
    refine SOps.st rfl rfl (Yv.move rfl).yl ?_
    refine SOps.st rfl rfl (Yv.nilCheck rfl).yl ?_
    refine SOps.st rfl rfl (Yv.fieldAddr fld80_2 rfl).yl ?_
    refine SOps.st rfl rfl (Yv.loadB (i := 0) lay78 rfl rfl rfl rfl).yl ?_
    refine SOps.st rfl rfl (Yv.mulW rfl rfl).yl ?_
    refine SOps.st rfl rfl (Yv.move rfl).yl ?_
    refine SOps.st rfl rfl (Yv.conv int3 int78 rfl).yl ?_
    refine SOps.st rfl rfl (Yv.addW rfl rfl).yl ?_
    refine SOps.st rfl rfl (Yv.addW rfl rfl).yl ?_
    refine SOps.st rfl rfl (Yv.nilCheck rfl).yl ?_
    refine SOps.st rfl rfl (Yv.fieldAddr fld80_2 rfl).yl ?_
    refine SOps.one rfl (One.store (i := 0) (off := 2) (vs := [_]) (cs' := [_, _, _]) (H' := [_]) lay78 rfl rfl rfl rfl rfl rfl rfl rfl rfl rfl ?_)
    refine SOps.nil ?_
    refine Run.seq ?_
    refine Run.seq ?_
    refine Run.quiet (fun _ => ⟨by kernel_rfl, by kernel_rfl⟩) ?_
    refine QOps.st rfl rfl (Yv.move rfl).yl ?_
    refine QOps.st rfl rfl (Yv.nilCheck rfl).yl ?_
    refine QOps.st rfl rfl (Yv.fieldAddr fld80_1 rfl).yl ?_
    refine QOps.st rfl rfl (Yv.loadB (i := 0) lay3 rfl rfl rfl rfl).yl ?_
    refine QOps.st rfl rfl (Yv.move rfl).yl ?_
    refine QOps.st rfl rfl (Yv.nilCheck rfl).yl ?_
    refine QOps.st rfl rfl (Yv.fieldAddr fld80_0 rfl).yl ?_
    refine QOps.st rfl rfl (Yv.loadB (i := 0) lay44 rfl rfl rfl rfl).yl ?_
    refine QOps.st rfl rfl (Yv.lenS el44s rfl).yl ?_
    refine QOps.st rfl rfl (Yv.leq rfl rfl).yl ?_
    refine QOps.nil ?_
    refine Run.cond rfl (fun hc2 => ?_) (fun hc2 => ?_)
    · try replace hc2 := of_decide_eq_true hc2
      refine Run.seq ?_
      refine Run.quiet (by intro h; cases h) ?_
      refine QOps.st rfl rfl (Yv.move rfl).yl ?_
      refine QOps.st rfl rfl (Yv.assign rfl).yl ?_
      refine QOps.nil ?_
      refine Run.ret ?_
      refine retQ.of (.inr rfl) rfl (.tmp rfl .nil) (fun w' hw' => ?_)
      exact ⟨_, _, _, rfl, (by rw [wrap_byte]; have := (nth xs at_.toNat).toNat_lt; omega), by omega, by omega, hw'.bel, hw'.ent _ (List.mem_of_getElem? (i := 0) rfl)⟩
    · try replace hc2 := of_decide_eq_false hc2
      refine Run.skip ?_
      refine Run.seq ?_
      refine Run.quiet (by intro h; cases h) ?_
      refine QOps.st rfl rfl (Yv.move rfl).yl ?_
      refine QOps.st rfl rfl (Yv.nilCheck rfl).yl ?_
      refine QOps.st rfl rfl (Yv.fieldAddr fld80_2 rfl).yl ?_
      refine QOps.st rfl rfl (Yv.loadB (i := 0) lay78 rfl rfl rfl rfl).yl ?_
      refine QOps.st rfl rfl (Yv.shr rfl rfl (by decide)).yl ?_
      refine QOps.st rfl rfl (Yv.and rfl rfl).yl ?_
      refine QOps.st rfl rfl (Yv.conv int78 int3 rfl).yl ?_
      refine QOps.st rfl rfl (Yv.assign rfl).yl ?_
      refine QOps.nil ?_
      refine Run.ret ?_
      refine retQ.of (.inr rfl) rfl (.tmp rfl .nil) (fun w' hw' => ?_)
      exact ⟨_, _, _, rfl, and255, by omega, by omega, hw'.bel, hw'.ent _ (List.mem_of_getElem? (i := 0) rfl)⟩
  · try replace hc1 := of_decide_eq_false hc1
    refine Run.skip ?_
    refine Run.seq ?_
    refine Run.ops ?_
    refine SOps.st rfl rfl (Yv.move rfl).yl ?_
    refine SOps.st rfl rfl (Yv.nilCheck rfl).yl ?_
    refine SOps.st rfl rfl (Yv.fieldAddr fld80_1 rfl).yl ?_
    refine SOps.st rfl rfl (Yv.loadB (i := 0) lay3 rfl rfl rfl rfl).yl ?_
    refine SOps.st rfl rfl (Yv.add rfl rfl (by omega)).yl ?_
    refine SOps.st rfl rfl (Yv.nilCheck rfl).yl ?_
    refine SOps.st rfl rfl (Yv.fieldAddr fld80_1 rfl).yl ?_
    refine SOps.one rfl (One.store (i := 0) (off := 1) (vs := [_]) (cs' := [_, _, _]) (H' := [_]) lay3 rfl rfl rfl rfl rfl rfl rfl rfl rfl rfl ?_)
    refine SOps.nil ?_
    refine Run.seq ?_
    refine Run.ops ?_
    refine SOps.st rfl rfl (Yv.move rfl).yl ?_
    refine SOps.st rfl rfl (Yv.move rfl).yl ?_
    refine SOps.st rfl rfl (Yv.nilCheck rfl).yl ?_
    refine SOps.st rfl rfl (Yv.fieldAddr fld80_2 rfl).yl ?_
    refine SOps.st rfl rfl (Yv.loadB (i := 0) lay78 rfl rfl rfl rfl).yl ?_
    refine SOps.st rfl rfl (Yv.mulW rfl rfl).yl ?_
    refine SOps.st rfl rfl (Yv.move rfl).yl ?_
    refine SOps.st rfl rfl (Yv.conv int3 int78 rfl).yl ?_
    refine SOps.st rfl rfl (Yv.addW rfl rfl).yl ?_
    refine SOps.st rfl rfl (Yv.addW rfl rfl).yl ?_
    refine SOps.st rfl rfl (Yv.nilCheck rfl).yl ?_
    refine SOps.st rfl rfl (Yv.fieldAddr fld80_2 rfl).yl ?_
    refine SOps.one rfl (One.store (i := 0) (off := 2) (vs := [_]) (cs' := [_, _, _]) (H' := [_]) lay78 rfl rfl rfl rfl rfl rfl rfl rfl rfl rfl ?_)
    refine SOps.nil ?_
    refine Run.seq ?_
    refine Run.seq ?_
    refine Run.quiet (fun _ => ⟨by kernel_rfl, by kernel_rfl⟩) ?_
    refine QOps.st rfl rfl (Yv.move rfl).yl ?_
    refine QOps.st rfl rfl (Yv.nilCheck rfl).yl ?_
    refine QOps.st rfl rfl (Yv.fieldAddr fld80_1 rfl).yl ?_
    refine QOps.st rfl rfl (Yv.loadB (i := 0) lay3 rfl rfl rfl rfl).yl ?_
    refine QOps.st rfl rfl (Yv.move rfl).yl ?_
    refine QOps.st rfl rfl (Yv.nilCheck rfl).yl ?_
    refine QOps.st rfl rfl (Yv.fieldAddr fld80_0 rfl).yl ?_
    refine QOps.st rfl rfl (Yv.loadB (i := 0) lay44 rfl rfl rfl rfl).yl ?_
    refine QOps.st rfl rfl (Yv.lenS el44s rfl).yl ?_
    refine QOps.st rfl rfl (Yv.leq rfl rfl).yl ?_
    refine QOps.nil ?_
    refine Run.cond rfl (fun hc3 => ?_) (fun hc3 => ?_)
    · try replace hc3 := of_decide_eq_true hc3
      refine Run.seq ?_
      refine Run.quiet (by intro h; cases h) ?_
      refine QOps.st rfl rfl (Yv.move rfl).yl ?_
      refine QOps.st rfl rfl (Yv.assign rfl).yl ?_
      refine QOps.nil ?_
      refine Run.ret ?_
      refine retQ.of (.inr rfl) rfl (.tmp rfl .nil) (fun w' hw' => ?_)
      exact ⟨_, _, _, rfl, (by omega), by omega, by omega, hw'.bel, hw'.ent _ (List.mem_of_getElem? (i := 0) rfl)⟩
    · try replace hc3 := of_decide_eq_false hc3
      refine Run.skip ?_
      refine Run.seq ?_
      refine Run.quiet (by intro h; cases h) ?_
      refine QOps.st rfl rfl (Yv.move rfl).yl ?_
      refine QOps.st rfl rfl (Yv.nilCheck rfl).yl ?_
      refine QOps.st rfl rfl (Yv.fieldAddr fld80_2 rfl).yl ?_
      refine QOps.st rfl rfl (Yv.loadB (i := 0) lay78 rfl rfl rfl rfl).yl ?_
      refine QOps.st rfl rfl (Yv.shr rfl rfl (by decide)).yl ?_
      refine QOps.st rfl rfl (Yv.and rfl rfl).yl ?_
      refine QOps.st rfl rfl (Yv.conv int78 int3 rfl).yl ?_
      refine QOps.st rfl rfl (Yv.assign rfl).yl ?_
      refine QOps.nil ?_
      refine Run.ret ?_
      refine retQ.of (.inr rfl) rfl (.tmp rfl .nil) (fun w' hw' => ?_)
      exact ⟨_, _, _, rfl, and255, by omega, by omega, hw'.bel, hw'.ent _ (List.mem_of_getElem? (i := 0) rfl)⟩
theorem tmod_in {x n : Int} (hx : 0 ≤ x) (hn : 0 < n) : 0 ≤ x.tmod n ∧ x.tmod n < n := ⟨Int.tmod_nonneg n hx, Int.tmod_lt_of_pos x hn⟩
theorem pick_spec {w : World} {g m c : Nat} {A : Option Addr} {xs : List UInt8} {at_ sd : Int} {n : Int} (hc : Cur w 80 g A m c xs at_ sd) (h0 : 0 ≤ at_) (h1 : at_ ≤ 8000000000000000000)  : Calls Try.prog 80 #[.pointer (some ⟨g, 0, none⟩), .int .i64 n] w (RetC w 80 g (.slice A m c) at_ 2 (fun (x : Int) => .int .i64 x) (fun x => 0 ≤ x ∧ (x < n ∨ n ≤ 1 ∧ x = 0))) := by
  refine calls_of_run (vs := [_, _]) (L := [(0, _), (1, _)]) (n := 20) (F := [g]) (H := [_]) Try.func80 rfl rfl rfl rfl (HOk.lend hc) ?_
  refine Run.seq ?_
  refine Run.quiet (by intro h; cases h) ?_
  refine QOps.st rfl rfl (Yv.assign rfl).yl ?_
  refine QOps.nil ?_
  refine Run.seq ?_
  refine Run.seq ?_
  refine Run.quiet (by intro h; cases h) ?_
  refine QOps.st rfl rfl (Yv.move rfl).yl ?_
  refine QOps.st rfl rfl (Yv.leq rfl rfl).yl ?_
  refine QOps.nil ?_
  refine Run.cond rfl (fun hc1 => ?_) (fun hc1 => ?_)
  · try replace hc1 := of_decide_eq_true hc1
    refine Run.seq ?_
    refine Run.quiet (by intro h; cases h) ?_
    refine QOps.st rfl rfl (Yv.assign rfl).yl ?_
    refine QOps.nil ?_
    refine Run.ret ?_
    refine retQ.of (.inr rfl) rfl (.tmp rfl .nil) (fun w' hw' => ?_)
    exact ⟨0, _, _, rfl, ⟨by omega, .inr ⟨hc1, rfl⟩⟩, by omega, by omega, hw'.bel, hw'.ent _ (List.mem_of_getElem? (i := 0) rfl)⟩
  · try replace hc1 := of_decide_eq_false hc1
    refine Run.skip ?_
    refine Run.seq ?_
    refine Run.ops ?_
    refine SOps.st rfl rfl (Yv.move rfl).yl ?_
    refine SOps.one rfl (One.callC (i := 0) (H' := fun _ _ => [_]) rfl callable91 (.cons rfl (.nil)) rfl (fun w' hw' => next_spec (Cur.lent hc (i := 0) rfl hw') (by omega) (by omega)) (fun _ _ => rfl) (fun x1 at1 sd1 ⟨hxl1, hxh1⟩ ha1 hb1 => ?_))
    refine SOps.st rfl rfl (Yv.assign rfl).yl ?_
    refine SOps.nil ?_
    refine Run.seq ?_
    refine Run.seq ?_
    refine Run.quiet (by intro h; cases h) ?_
    refine QOps.st rfl rfl (Yv.move rfl).yl ?_
    refine QOps.st rfl rfl (Yv.gtr rfl rfl).yl ?_
    refine QOps.nil ?_
    refine Run.cond rfl (fun hc2 => ?_) (fun hc2 => ?_)
    · try replace hc2 := of_decide_eq_true hc2
      refine Run.ops ?_
      refine SOps.st rfl rfl (Yv.move rfl).yl ?_
      refine SOps.st rfl rfl (Yv.mul rfl rfl (by omega)).yl ?_
      refine SOps.st rfl rfl (Yv.move rfl).yl ?_
      refine SOps.one rfl (One.callC (i := 0) (H' := fun _ _ => [_]) rfl callable91 (.cons rfl (.nil)) rfl (fun w' hw' => next_spec (Cur.lent hc (i := 0) rfl hw') (by omega) (by omega)) (fun _ _ => rfl) (fun x2 at2 sd2 ⟨hxl2, hxh2⟩ ha2 hb2 => ?_))
      refine SOps.st rfl rfl (Yv.add rfl rfl (by omega)).yl ?_
      refine SOps.st rfl rfl (Yv.assign rfl).yl ?_
      refine SOps.nil ?_
      refine Run.seq ?_
      refine Run.quiet (by intro h; cases h) ?_
      refine QOps.st rfl rfl (Yv.move rfl).yl ?_
      refine QOps.st rfl rfl (Yv.move rfl).yl ?_
      refine QOps.st rfl rfl (Yv.rem rfl rfl (by omega)).yl ?_
      refine QOps.st rfl rfl (Yv.assign rfl).yl ?_
      refine QOps.nil ?_
      refine Run.ret ?_
      refine retQ.of (.inr rfl) rfl (.tmp rfl .nil) (fun w' hw' => ?_)
      exact ⟨_, _, _, rfl, (by have := tmod_in (x := x1 * 256 + x2) (n := n) (by omega) (by omega); exact ⟨this.1, .inl this.2⟩), by omega, by omega, hw'.bel, hw'.ent _ (List.mem_of_getElem? (i := 0) rfl)⟩
    · try replace hc2 := of_decide_eq_false hc2
      refine Run.skip ?_
      refine Run.seq ?_
      refine Run.quiet (by intro h; cases h) ?_
      refine QOps.st rfl rfl (Yv.move rfl).yl ?_
      refine QOps.st rfl rfl (Yv.move rfl).yl ?_
      refine QOps.st rfl rfl (Yv.rem rfl rfl (by omega)).yl ?_
      refine QOps.st rfl rfl (Yv.assign rfl).yl ?_
      refine QOps.nil ?_
      refine Run.ret ?_
      refine retQ.of (.inr rfl) rfl (.tmp rfl .nil) (fun w' hw' => ?_)
      exact ⟨_, _, _, rfl, (by have := tmod_in (x := x1) (n := n) (by omega) (by omega); exact ⟨this.1, .inl this.2⟩), by omega, by omega, hw'.bel, hw'.ent _ (List.mem_of_getElem? (i := 0) rfl)⟩

theorem one_spec {w : World} {g m c : Nat} {A : Option Addr} {xs : List UInt8} {at_ sd : Int} {n : Int} (hc : Cur w 80 g A m c xs at_ sd) (h0 : 0 ≤ at_) (h1 : at_ ≤ 7000000000000000000)  : Calls Try.prog 88 #[.pointer (some ⟨g, 0, none⟩), .int .i64 n] w (RetC w 80 g (.slice A m c) at_ 2 (fun (x : Bool) => .bool x) (fun _ => True)) := by
  refine calls_of_run (vs := [_, _]) (L := [(0, _), (1, _)]) (n := 9) (F := [g]) (H := [_]) Try.func88 rfl rfl rfl rfl (HOk.lend hc) ?_
  refine Run.seq ?_
  refine Run.quiet (by intro h; cases h) ?_
  refine QOps.st rfl rfl (Yv.assign rfl).yl ?_
  refine QOps.nil ?_
  refine Run.seq ?_
  refine Run.ops ?_
  refine SOps.st rfl rfl (Yv.move rfl).yl ?_
  refine SOps.st rfl rfl (Yv.move rfl).yl ?_
  refine SOps.one rfl (One.callC (i := 0) (H' := fun _ _ => [_]) rfl callable80 (.cons rfl (.cons rfl (.nil))) rfl (fun w' hw' => pick_spec (Cur.lent hc (i := 0) rfl hw') (by omega) (by omega)) (fun _ _ => rfl) (fun x1 at1 sd1 ⟨hxl1, hxh1⟩ ha1 hb1 => ?_))
  refine SOps.st rfl rfl (Yv.eqI rfl rfl).yl ?_
  refine SOps.st rfl rfl (Yv.assign rfl).yl ?_
  refine SOps.nil ?_
  refine Run.ret ?_
  refine retQ.of (.inr rfl) rfl (.tmp rfl .nil) (fun w' hw' => ?_)
  exact ⟨_, _, _, rfl, trivial, by omega, by omega, hw'.bel, hw'.ent _ (List.mem_of_getElem? (i := 0) rfl)⟩

theorem nth_mem {α : Type} [Inhabited α] {l : List α} {k : Nat} (h : k < l.length) : nth l k ∈ l := List.mem_of_getElem? (nth_get h)
theorem among_spec {w : World} {g m c : Nat} {A : Option Addr} {xs : List UInt8} {at_ sd : Int} {A2 : Option Addr} {k c2 : Nat} {l : List Int} (hc : Cur w 80 g A m c xs at_ sd) (h0 : 0 ≤ at_) (h1 : at_ ≤ 7000000000000000000) (hl : Sl w 1 A2 k c2 (l.flatMap intC)) (hk : l.length = k) (hk0 : 0 < k) (hkm : k ≤ 1048576) (hne2 : 0 < k → (adr A2).block ≠ g) : Calls Try.prog 79 #[.pointer (some ⟨g, 0, none⟩), .slice A2 k c2] w (RetC w 80 g (.slice A m c) at_ 2 (fun (x : Int) => .int .i64 x) (fun x => x ∈ l)) := by
  refine calls_of_run (vs := [_, _]) (L := [(0, _), (1, _)]) (n := 12) (F := [g]) (H := [_]) Try.func79 rfl rfl rfl rfl (HOk.lend hc) ?_
  refine Run.seq ?_
  refine Run.quiet (by intro h; cases h) ?_
  refine QOps.st rfl rfl (Yv.assign rfl).yl ?_
  refine QOps.nil ?_
  refine Run.seq ?_
  refine Run.ops ?_
  refine SOps.st rfl rfl (Yv.move rfl).yl ?_
  refine SOps.st rfl rfl (Yv.move rfl).yl ?_
  refine SOps.st rfl rfl (Yv.move rfl).yl ?_
  refine SOps.st rfl rfl (Yv.lenS el85s rfl).yl ?_
  refine SOps.one rfl (One.callC (i := 0) (H' := fun _ _ => [_]) rfl callable80 (.cons rfl (.cons rfl (.nil))) rfl (fun w' hw' => pick_spec (Cur.lent hc (i := 0) rfl hw') (by omega) (by omega)) (fun _ _ => rfl) (fun x1 at1 sd1 ⟨hxl1, hxh1⟩ ha1 hb1 => ?_))
  refine SOps.st rfl rfl (Yv.indexAddr x1.toNat el85 rfl rfl (by omega) (Rd.argN hl (fun h => by simpa using hne2 h)) (by omega)).yl ?_
  refine SOps.st rfl rfl (Yv.loadE lay3 rfl intC_len (Rd.argN hl (fun h => by simpa using hne2 h)) (by omega) rfl).yl ?_
  refine SOps.st rfl rfl (Yv.assign rfl).yl ?_
  refine SOps.nil ?_
  refine Run.ret ?_
  refine retQ.of (.inr rfl) rfl (.tmp rfl .nil) (fun w' hw' => ?_)
  exact ⟨_, _, _, rfl, (nth_mem (by omega)), by omega, by omega, hw'.bel, hw'.ent _ (List.mem_of_getElem? (i := 0) rfl)⟩


theorem room_spec {w : World} {g m c : Nat} {A : Option Addr} {xs : List UInt8} {at_ sd : Int}  (hc : Cur w 80 g A m c xs at_ sd) (h0 : 0 ≤ at_) (h1 : at_ ≤ 6000000000000000000)  : Calls Try.prog 67 #[.pointer (some ⟨g, 0, none⟩)] w (RetC w 80 g (.slice A m c) at_ 4 (fun (x : Int) => .int .i64 x) (fun _ => True)) := by
  refine calls_of_run (vs := [_]) (L := [(0, _)]) (n := 11) (F := [g]) (H := [_]) Try.func67 rfl rfl rfl rfl (HOk.lend hc) ?_
  refine Run.seq ?_
  refine Run.quiet (by intro h; cases h) ?_
  refine QOps.st rfl rfl (Yv.assign rfl).yl ?_
  refine QOps.nil ?_
  refine Run.seq ?_
  refine Run.ops ?_
  refine SOps.st rfl rfl (Yv.move rfl).yl ?_
  refine SOps.one rfl (One.buildSliceG (pv := [(0, _), (1, _), (2, _), (3, _), (4, _), (5, _)]) (cs := [_, _, _, _, _, _]) (fun l => match l with | [a0_0, a1_0, a2_0, a3_0, a4_0, a5_0] => [a0_0, a1_0, a2_0, a3_0, a4_0, a5_0] | _ => []) rfl el85 (.cons rfl (.cons rfl (.cons rfl (.cons rfl (.cons rfl (.cons rfl (.nil))))))) rfl rfl (by kernel_rfl) rfl rfl (fun b1 => ?_))
  refine SOps.st rfl rfl (Yv.move rfl).yl ?_
  refine SOps.one rfl (One.callC (i := 1) (H' := fun _ _ => [_, _]) rfl callable80 (.cons rfl (.cons rfl (.nil))) rfl (fun w' hw' => pick_spec (Cur.lent hc (i := 1) rfl hw') (by omega) (by omega)) (fun _ _ => rfl) (fun x1 at1 sd1 ⟨hxl1, hxh1⟩ ha1 hb1 => ?_))
  refine SOps.st rfl rfl (Yv.quoP rfl rfl (by omega) (by omega) (by omega)).yl ?_
  refine SOps.st rfl rfl (Yv.add rfl rfl (by omega)).yl ?_
  refine SOps.st rfl rfl (Yv.cutTo0 ((4 + x1 / 29).toNat) el85 rfl rfl (by omega) (by omega)).yl ?_
  refine SOps.one rfl (One.callC (i := 1) (H' := fun _ _ => [_, _]) rfl callable79 (.cons rfl (.cons rfl (.nil))) rfl (fun w' hw' => among_spec (Cur.lent hc (i := 1) rfl hw') (by omega) (by omega) (l := ([1, 1, 2, 3, 0, 4].take ((4 + x1 / 29).toNat))) ((Rd.cut0 (xs := [1, 1, 2, 3, 0, 4]) intC_len (Rd.row (i := 0) rfl) (by omega)) w' hw') (by simp; try omega) (by first | omega | simp) (by first | omega | simp) (fun hm => HOk.rowNe hw' (i := 1) (j := 0) rfl rfl rfl (by first | exact hm | omega))) (fun _ _ => rfl) (fun x2 at2 sd2 hx2 ha2 hb2 => ?_))
  refine SOps.st rfl rfl (Yv.assign rfl).yl ?_
  refine SOps.nil ?_
  refine Run.ret ?_
  refine retQ.of (.inr rfl) rfl (.tmp rfl .nil) (fun w' hw' => ?_)
  exact ⟨_, _, _, rfl, trivial, by omega, by omega, hw'.bel, hw'.ent _ (List.mem_of_getElem? (i := 1) rfl)⟩


theorem lock18_spec {w : World} {g m c : Nat} {A : Option Addr} {xs : List UInt8} {at_ sd : Int}  (hc : Cur w 80 g A m c xs at_ sd) (h0 : 0 ≤ at_) (h1 : at_ ≤ 6000000000000000000)  : Calls Try.prog 70 #[.pointer (some ⟨g, 0, none⟩)] w (RetC w 80 g (.slice A m c) at_ 4 (fun (x : Int) => .int .i64 x) (fun _ => True)) := by
  refine calls_of_run (vs := [_]) (L := [(0, _)]) (n := 11) (F := [g]) (H := [_]) Try.func70 rfl rfl rfl rfl (HOk.lend hc) ?_
  refine Run.seq ?_
  refine Run.quiet (by intro h; cases h) ?_
  refine QOps.st rfl rfl (Yv.assign rfl).yl ?_
  refine QOps.nil ?_
  refine Run.seq ?_
  refine Run.ops ?_
  refine SOps.st rfl rfl (Yv.move rfl).yl ?_
  refine SOps.one rfl (One.buildSliceG (pv := [(0, _), (1, _), (2, _), (3, _), (4, _), (5, _), (6, _)]) (cs := [_, _, _, _, _, _, _]) (fun l => match l with | [a0_0, a1_0, a2_0, a3_0, a4_0, a5_0, a6_0] => [a0_0, a1_0, a2_0, a3_0, a4_0, a5_0, a6_0] | _ => []) rfl el85 (.cons rfl (.cons rfl (.cons rfl (.cons rfl (.cons rfl (.cons rfl (.cons rfl (.nil)))))))) rfl rfl (by kernel_rfl) rfl rfl (fun b1 => ?_))
  refine SOps.st rfl rfl (Yv.move rfl).yl ?_
  refine SOps.one rfl (One.callC (i := 1) (H' := fun _ _ => [_, _]) rfl callable80 (.cons rfl (.cons rfl (.nil))) rfl (fun w' hw' => pick_spec (Cur.lent hc (i := 1) rfl hw') (by omega) (by omega)) (fun _ _ => rfl) (fun x1 at1 sd1 ⟨hxl1, hxh1⟩ ha1 hb1 => ?_))
  refine SOps.st rfl rfl (Yv.quoP rfl rfl (by omega) (by omega) (by omega)).yl ?_
  refine SOps.st rfl rfl (Yv.add rfl rfl (by omega)).yl ?_
  refine SOps.st rfl rfl (Yv.cutTo0 ((5 + x1 / 11).toNat) el85 rfl rfl (by omega) (by omega)).yl ?_
  refine SOps.one rfl (One.callC (i := 1) (H' := fun _ _ => [_, _]) rfl callable79 (.cons rfl (.cons rfl (.nil))) rfl (fun w' hw' => among_spec (Cur.lent hc (i := 1) rfl hw') (by omega) (by omega) (l := ([0, 1, 2, 3, 4, (-1), 5].take ((5 + x1 / 11).toNat))) ((Rd.cut0 (xs := [0, 1, 2, 3, 4, (-1), 5]) intC_len (Rd.row (i := 0) rfl) (by omega)) w' hw') (by simp; try omega) (by first | omega | simp) (by first | omega | simp) (fun hm => HOk.rowNe hw' (i := 1) (j := 0) rfl rfl rfl (by first | exact hm | omega))) (fun _ _ => rfl) (fun x2 at2 sd2 hx2 ha2 hb2 => ?_))
  refine SOps.st rfl rfl (Yv.assign rfl).yl ?_
  refine SOps.nil ?_
  refine Run.ret ?_
  refine retQ.of (.inr rfl) rfl (.tmp rfl .nil) (fun w' hw' => ?_)
  exact ⟨_, _, _, rfl, trivial, by omega, by omega, hw'.bel, hw'.ent _ (List.mem_of_getElem? (i := 1) rfl)⟩


theorem slot18_spec {w : World} {g m c : Nat} {A : Option Addr} {xs : List UInt8} {at_ sd : Int}  (hc : Cur w 80 g A m c xs at_ sd) (h0 : 0 ≤ at_) (h1 : at_ ≤ 6000000000000000000)  : Calls Try.prog 71 #[.pointer (some ⟨g, 0, none⟩)] w (RetC w 80 g (.slice A m c) at_ 4 (fun (x : Int) => .int .i64 x) (fun _ => True)) := by
  refine calls_of_run (vs := [_]) (L := [(0, _)]) (n := 11) (F := [g]) (H := [_]) Try.func71 rfl rfl rfl rfl (HOk.lend hc) ?_
  refine Run.seq ?_
  refine Run.quiet (by intro h; cases h) ?_
  refine QOps.st rfl rfl (Yv.assign rfl).yl ?_
  refine QOps.nil ?_
  refine Run.seq ?_
  refine Run.ops ?_
  refine SOps.st rfl rfl (Yv.move rfl).yl ?_
  refine SOps.one rfl (One.buildSliceG (pv := [(0, _), (1, _), (2, _), (3, _), (4, _), (5, _), (6, _), (7, _)]) (cs := [_, _, _, _, _, _, _, _]) (fun l => match l with | [a0_0, a1_0, a2_0, a3_0, a4_0, a5_0, a6_0, a7_0] => [a0_0, a1_0, a2_0, a3_0, a4_0, a5_0, a6_0, a7_0] | _ => []) rfl el85 (.cons rfl (.cons rfl (.cons rfl (.cons rfl (.cons rfl (.cons rfl (.cons rfl (.cons rfl (.nil))))))))) rfl rfl (by kernel_rfl) rfl rfl (fun b1 => ?_))
  refine SOps.st rfl rfl (Yv.move rfl).yl ?_
  refine SOps.one rfl (One.callC (i := 1) (H' := fun _ _ => [_, _]) rfl callable80 (.cons rfl (.cons rfl (.nil))) rfl (fun w' hw' => pick_spec (Cur.lent hc (i := 1) rfl hw') (by omega) (by omega)) (fun _ _ => rfl) (fun x1 at1 sd1 ⟨hxl1, hxh1⟩ ha1 hb1 => ?_))
  refine SOps.st rfl rfl (Yv.quoP rfl rfl (by omega) (by omega) (by omega)).yl ?_
  refine SOps.st rfl rfl (Yv.add rfl rfl (by omega)).yl ?_
  refine SOps.st rfl rfl (Yv.cutTo0 ((6 + x1 / 11).toNat) el85 rfl rfl (by omega) (by omega)).yl ?_
  refine SOps.one rfl (One.callC (i := 1) (H' := fun _ _ => [_, _]) rfl callable79 (.cons rfl (.cons rfl (.nil))) rfl (fun w' hw' => among_spec (Cur.lent hc (i := 1) rfl hw') (by omega) (by omega) (l := ([0, 1, 2, 10, 46, 47, (-1), 48].take ((6 + x1 / 11).toNat))) ((Rd.cut0 (xs := [0, 1, 2, 10, 46, 47, (-1), 48]) intC_len (Rd.row (i := 0) rfl) (by omega)) w' hw') (by simp; try omega) (by first | omega | simp) (by first | omega | simp) (fun hm => HOk.rowNe hw' (i := 1) (j := 0) rfl rfl rfl (by first | exact hm | omega))) (fun _ _ => rfl) (fun x2 at2 sd2 hx2 ha2 hb2 => ?_))
  refine SOps.st rfl rfl (Yv.assign rfl).yl ?_
  refine SOps.nil ?_
  refine Run.ret ?_
  refine retQ.of (.inr rfl) rfl (.tmp rfl .nil) (fun w' hw' => ?_)
  exact ⟨_, _, _, rfl, trivial, by omega, by omega, hw'.bel, hw'.ent _ (List.mem_of_getElem? (i := 1) rfl)⟩


theorem vessel18_spec {w : World} {g m c : Nat} {A : Option Addr} {xs : List UInt8} {at_ sd : Int}  (hc : Cur w 80 g A m c xs at_ sd) (h0 : 0 ≤ at_) (h1 : at_ ≤ 6000000000000000000)  : Calls Try.prog 69 #[.pointer (some ⟨g, 0, none⟩)] w (RetC w 80 g (.slice A m c) at_ 4 (fun (x : Int) => .int .i64 x) (fun _ => True)) := by
  refine calls_of_run (vs := [_]) (L := [(0, _)]) (n := 11) (F := [g]) (H := [_]) Try.func69 rfl rfl rfl rfl (HOk.lend hc) ?_
  refine Run.seq ?_
  refine Run.quiet (by intro h; cases h) ?_
  refine QOps.st rfl rfl (Yv.assign rfl).yl ?_
  refine QOps.nil ?_
  refine Run.seq ?_
  refine Run.ops ?_
  refine SOps.st rfl rfl (Yv.move rfl).yl ?_
  refine SOps.one rfl (One.buildSliceG (pv := [(0, _), (1, _), (2, _), (3, _), (4, _), (5, _), (6, _)]) (cs := [_, _, _, _, _, _, _]) (fun l => match l with | [a0_0, a1_0, a2_0, a3_0, a4_0, a5_0, a6_0] => [a0_0, a1_0, a2_0, a3_0, a4_0, a5_0, a6_0] | _ => []) rfl el85 (.cons rfl (.cons rfl (.cons rfl (.cons rfl (.cons rfl (.cons rfl (.cons rfl (.nil)))))))) rfl rfl (by kernel_rfl) rfl rfl (fun b1 => ?_))
  refine SOps.st rfl rfl (Yv.move rfl).yl ?_
  refine SOps.one rfl (One.callC (i := 1) (H' := fun _ _ => [_, _]) rfl callable80 (.cons rfl (.cons rfl (.nil))) rfl (fun w' hw' => pick_spec (Cur.lent hc (i := 1) rfl hw') (by omega) (by omega)) (fun _ _ => rfl) (fun x1 at1 sd1 ⟨hxl1, hxh1⟩ ha1 hb1 => ?_))
  refine SOps.st rfl rfl (Yv.quoP rfl rfl (by omega) (by omega) (by omega)).yl ?_
  refine SOps.st rfl rfl (Yv.add rfl rfl (by omega)).yl ?_
  refine SOps.st rfl rfl (Yv.cutTo0 ((5 + x1 / 11).toNat) el85 rfl rfl (by omega) (by omega)).yl ?_
  refine SOps.one rfl (One.callC (i := 1) (H' := fun _ _ => [_, _]) rfl callable79 (.cons rfl (.cons rfl (.nil))) rfl (fun w' hw' => among_spec (Cur.lent hc (i := 1) rfl hw') (by omega) (by omega) (l := ([1, 2, 3, 4, 99, 0, 100].take ((5 + x1 / 11).toNat))) ((Rd.cut0 (xs := [1, 2, 3, 4, 99, 0, 100]) intC_len (Rd.row (i := 0) rfl) (by omega)) w' hw') (by simp; try omega) (by first | omega | simp) (by first | omega | simp) (fun hm => HOk.rowNe hw' (i := 1) (j := 0) rfl rfl rfl (by first | exact hm | omega))) (fun _ _ => rfl) (fun x2 at2 sd2 hx2 ha2 hb2 => ?_))
  refine SOps.st rfl rfl (Yv.assign rfl).yl ?_
  refine SOps.nil ?_
  refine Run.ret ?_
  refine retQ.of (.inr rfl) rfl (.tmp rfl .nil) (fun w' hw' => ?_)
  exact ⟨_, _, _, rfl, trivial, by omega, by omega, hw'.bel, hw'.ent _ (List.mem_of_getElem? (i := 1) rfl)⟩


theorem number18_spec {w : World} {g m c : Nat} {A : Option Addr} {xs : List UInt8} {at_ sd : Int} {A2 : Option Addr} {k c2 : Nat} {l : List Booking} (hc : Cur w 80 g A m c xs at_ sd) (h0 : 0 ≤ at_) (h1 : at_ ≤ 6000000000000000000) (hl : Sl w 4 A2 k c2 (l.flatMap Booking.enc)) (hk : l.length = k) (hkm : k ≤ 1048576) (hne2 : 0 < k → (adr A2).block ≠ g) : Calls Try.prog 72 #[.pointer (some ⟨g, 0, none⟩), .slice A2 k c2] w (RetC w 80 g (.slice A m c) at_ 4 (fun (x : Int) => .int .i64 x) (fun _ => True)) := by
  refine calls_of_run (vs := [_, _]) (L := [(0, _), (1, _)]) (n := 23) (F := [g]) (H := [_]) Try.func72 rfl rfl rfl rfl (HOk.lend hc) ?_
  refine Run.seq ?_
  refine Run.quiet (by intro h; cases h) ?_
  refine QOps.st rfl rfl (Yv.assign rfl).yl ?_
  refine QOps.nil ?_
  refine Run.seq ?_
  refine Run.seq ?_
  refine Run.ops ?_
  refine SOps.st rfl rfl (Yv.move rfl).yl ?_
  refine SOps.st rfl rfl (Yv.lenS el25s rfl).yl ?_
  refine SOps.st rfl rfl (Yv.eqI rfl rfl).yl ?_
  refine SOps.st rfl rfl (Yv.move rfl).yl ?_
  refine SOps.split (fun hs1 => ?_) (fun hs1 => ?_)
  · try replace hs1 := of_decide_eq_true hs1
    refine SOps.sk rfl rfl ?_
    refine SOps.sk rfl rfl ?_
    refine SOps.st rfl rfl (Yv.pickT rfl rfl).yl ?_
    refine SOps.nil ?_
    refine Run.cond rfl (fun hc1 => ?_) (fun hc1 => ?_)
    · try replace hc1 := of_decide_eq_true hc1
      refine Run.seq ?_
      refine Run.ops ?_
      refine SOps.st rfl rfl (Yv.move rfl).yl ?_
      refine SOps.one rfl (One.buildSliceG (pv := [(0, _), (1, _), (2, _)]) (cs := [_, _, _]) (fun l => match l with | [a0_0, a1_0, a2_0] => [a0_0, a1_0, a2_0] | _ => []) rfl el85 (.cons rfl (.cons rfl (.cons rfl (.nil)))) rfl rfl (by kernel_rfl) rfl rfl (fun b1 => ?_))
      refine SOps.one rfl (One.callC (i := 1) (H' := fun _ _ => [_, _]) rfl callable79 (.cons rfl (.cons rfl (.nil))) rfl (fun w' hw' => among_spec (Cur.lent hc (i := 1) rfl hw') (by omega) (by omega) (l := [0, 1, 500]) ((Rd.row (i := 0) rfl) w' hw') (by simp; try omega) (by first | omega | simp) (by first | omega | simp) (fun hm => HOk.rowNe hw' (i := 1) (j := 0) rfl rfl rfl (by first | exact hm | omega))) (fun _ _ => rfl) (fun x1 at1 sd1 hx1 ha1 hb1 => ?_))
      refine SOps.st rfl rfl (Yv.assign rfl).yl ?_
      refine SOps.nil ?_
      refine Run.ret ?_
      refine retQ.of (.inr rfl) rfl (.tmp rfl .nil) (fun w' hw' => ?_)
      exact ⟨_, _, _, rfl, trivial, by omega, by omega, hw'.bel, hw'.ent _ (List.mem_of_getElem? (i := 1) rfl)⟩
    · exfalso
      cases hc1
  · try replace hs1 := of_decide_eq_false hs1
    refine SOps.st rfl rfl (Yv.move rfl).yl ?_
    refine SOps.one rfl (One.callC (i := 0) (H' := fun _ _ => [_]) rfl callable88 (.cons rfl (.cons rfl (.nil))) rfl (fun w' hw' => one_spec (Cur.lent hc (i := 0) rfl hw') (by omega) (by omega)) (fun _ _ => rfl) (fun x2 at2 sd2 _ ha2 hb2 => ?_))
    refine SOps.st rfl rfl (Yv.pickF rfl rfl).yl ?_
    refine SOps.nil ?_
    refine Run.cond rfl (fun hc2 => ?_) (fun hc2 => ?_)
    · try replace hc2 := of_decide_eq_true hc2
      refine Run.seq ?_
      refine Run.ops ?_
      refine SOps.st rfl rfl (Yv.move rfl).yl ?_
      refine SOps.one rfl (One.buildSliceG (pv := [(0, _), (1, _), (2, _)]) (cs := [_, _, _]) (fun l => match l with | [a0_0, a1_0, a2_0] => [a0_0, a1_0, a2_0] | _ => []) rfl el85 (.cons rfl (.cons rfl (.cons rfl (.nil)))) rfl rfl (by kernel_rfl) rfl rfl (fun b2 => ?_))
      refine SOps.one rfl (One.callC (i := 1) (H' := fun _ _ => [_, _]) rfl callable79 (.cons rfl (.cons rfl (.nil))) rfl (fun w' hw' => among_spec (Cur.lent hc (i := 1) rfl hw') (by omega) (by omega) (l := [0, 1, 500]) ((Rd.row (i := 0) rfl) w' hw') (by simp; try omega) (by first | omega | simp) (by first | omega | simp) (fun hm => HOk.rowNe hw' (i := 1) (j := 0) rfl rfl rfl (by first | exact hm | omega))) (fun _ _ => rfl) (fun x3 at3 sd3 hx3 ha3 hb3 => ?_))
      refine SOps.st rfl rfl (Yv.assign rfl).yl ?_
      refine SOps.nil ?_
      refine Run.ret ?_
      refine retQ.of (.inr rfl) rfl (.tmp rfl .nil) (fun w' hw' => ?_)
      exact ⟨_, _, _, rfl, trivial, by omega, by omega, hw'.bel, hw'.ent _ (List.mem_of_getElem? (i := 1) rfl)⟩
    · try replace hc2 := of_decide_eq_false hc2
      refine Run.skip ?_
      refine Run.seq ?_
      refine Run.ops ?_
      refine SOps.st rfl rfl (Yv.move rfl).yl ?_
      refine SOps.st rfl rfl (Yv.move rfl).yl ?_
      refine SOps.st rfl rfl (Yv.move rfl).yl ?_
      refine SOps.st rfl rfl (Yv.lenS el25s rfl).yl ?_
      refine SOps.one rfl (One.callC (i := 0) (H' := fun _ _ => [_]) rfl callable80 (.cons rfl (.cons rfl (.nil))) rfl (fun w' hw' => pick_spec (Cur.lent hc (i := 0) rfl hw') (by omega) (by omega)) (fun _ _ => rfl) (fun x4 at4 sd4 ⟨hxl4, hxh4⟩ ha4 hb4 => ?_))
      refine SOps.st rfl rfl (Yv.indexAddr x4.toNat el25 rfl rfl (by omega) (Rd.argN hl (fun h => by simpa using hne2 h)) (by omega)).yl ?_
      refine SOps.st rfl rfl (Yv.fieldAddr fld49_0 rfl).yl ?_
      refine SOps.st rfl rfl (Yv.loadF lay3 rfl Booking.len (Rd.argN hl (fun h => by simpa using hne2 h)) (by omega) (by decide) rfl).yl ?_
      refine SOps.st rfl rfl (Yv.assign rfl).yl ?_
      refine SOps.nil ?_
      refine Run.ret ?_
      refine retQ.of (.inr rfl) rfl (.tmp rfl .nil) (fun w' hw' => ?_)
      exact ⟨_, _, _, rfl, trivial, by omega, by omega, hw'.bel, hw'.ent _ (List.mem_of_getElem? (i := 0) rfl)⟩

theorem bookings_spec {w : World} {g m c : Nat} {A : Option Addr} {xs : List UInt8} {at_ sd room : Int} (hc : Cur w 80 g A m c xs at_ sd) (h0 : 0 ≤ at_) (h1 : at_ ≤ 5000000000000000000) :
    Calls Try.prog 68 #[.pointer (some ⟨g, 0, none⟩), .int .i64 room] w (RetCR w 80 g (.slice A m c) at_ 200 49 4 Booking.enc (fun (l : List Booking) => l) (fun _ v => v) (fun l => l.length ≤ 20)) := by
  refine calls_of_run (vs := [_, _]) (L := [(0, _), (1, _)]) (n := 115) (F := [g]) (H := [_]) Try.func68 rfl rfl rfl rfl (HOk.lend hc) ?_
  refine Run.seq ?_
  refine Run.quiet (by intro h; cases h) ?_
  refine QOps.st rfl rfl (Yv.assign rfl).yl ?_
  refine QOps.nil ?_
  refine Run.seq ?_
  refine Run.ops ?_
  refine SOps.one rfl (One.buildSliceG (pv := []) (cs := []) (fun _ => []) rfl el25 .nil rfl rfl (by kernel_rfl) rfl rfl (fun b1 => ?_))
  refine SOps.st rfl rfl (Yv.assign rfl).yl ?_
  refine SOps.nil ?_
  refine Run.seq ?_
  refine Run.seq ?_
  refine Run.ops ?_
  refine SOps.st rfl rfl (Yv.move rfl).yl ?_
  refine SOps.one rfl (One.callC (i := 1) (H' := fun _ _ => [_, _]) rfl callable80 (.cons rfl (.cons rfl (.nil))) rfl (fun w' hw' => pick_spec (Cur.lent hc (i := 1) rfl hw') (by omega) (by omega)) (fun _ _ => rfl) (fun x1 at1 sd1 ⟨hxl1, hxh1⟩ ha1 hb1 => ?_))
  refine SOps.st rfl rfl (Yv.assign rfl).yl ?_
  refine SOps.nil ?_
  refine Run.block ?_
  refine Run.loop (S := Int × Nat × List Booking × Option Addr × Nat × Int × Int) (fun s => match s with | (z, nn, o, A2, c2, a2, s2) => 0 ≤ z ∧ z ≤ 7 ∧ nn ≤ 10 ∧ at_ ≤ a2 ∧ a2 ≤ at_ + 2 + 12 * (7 - z) ∧ o.length = nn) (fun s => match s with | (z, nn, o, A2, c2, a2, s2) => [(0, .pointer (some ⟨g, 0, none⟩)), (1, .int .i64 room), (5, .slice A2 nn c2), (6, .int .i64 z)]) (fun s => match s with | (z, nn, o, A2, c2, a2, s2) => [.row A2 c2 49 4 nn (o.flatMap Booking.enc), .blk g 80 [.slice A m c, .int .i64 a2, .int .u64 s2]]) (fun s => match s with | (z, nn, o, A2, c2, a2, s2) => z.toNat) (x1, 0, [], some ⟨b1, 0, none⟩, 0, _, _) ?_ (SubE.cons rfl (SubE.cons rfl (SubE.cons rfl (SubE.cons rfl (SubE.nil _))))) (List.Sublist.refl _) ?_
  · exact ⟨by omega, by omega, by omega, by omega, by omega, rfl⟩
  · rintro ⟨z, nn, o, A2, c2, a2, s2⟩ ⟨hz0, hz7, hn10, ha2l, ha2h, hnn⟩
    show Run _ _ _ _ _ [(0, .pointer (some ⟨g, 0, none⟩)), (1, .int .i64 room), (5, .slice A2 nn c2), (6, .int .i64 z)] [.row A2 c2 49 4 nn (o.flatMap Booking.enc), .blk g 80 [.slice A m c, .int .i64 a2, .int .u64 s2]] _
    subst hnn
    refine Run.seq ?_
    refine Run.seq ?_
    refine Run.quiet (by intro h; cases h) ?_
    refine QOps.st rfl rfl (Yv.move rfl).yl ?_
    refine QOps.st rfl rfl (Yv.gtr rfl rfl).yl ?_
    refine QOps.nil ?_
    refine Run.cond rfl (fun hc1 => ?_) (fun hc1 => ?_)
    · try replace hc1 := of_decide_eq_true hc1
      refine Run.skip ?_
      refine Run.seq ?_
      refine Run.block ?_
      refine Run.seq ?_
      refine Run.ops ?_
      refine SOps.st rfl rfl (Yv.move rfl).yl ?_
      refine SOps.st rfl rfl (Yv.move rfl).yl ?_
      refine SOps.st rfl rfl (Yv.move rfl).yl ?_
      refine SOps.one rfl (One.callC (i := 1) (H' := fun _ _ => [_, _]) rfl callable80 (.cons rfl (.cons rfl (.nil))) rfl (fun w' hw' => pick_spec (Cur.lent hc (i := 1) rfl hw') (by omega) (by omega)) (fun _ _ => rfl) (fun x2 at2 sd2 ⟨hxl2, hxh2⟩ ha2 hb2 => ?_))
      refine SOps.st rfl rfl (Yv.add rfl rfl (by omega)).yl ?_
      refine SOps.st rfl rfl (Yv.move rfl).yl ?_
      refine SOps.one rfl (One.callC (i := 1) (H' := fun _ _ => [_, _]) rfl callable80 (.cons rfl (.cons rfl (.nil))) rfl (fun w' hw' => pick_spec (Cur.lent hc (i := 1) rfl hw') (by omega) (by omega)) (fun _ _ => rfl) (fun x3 at3 sd3 ⟨hxl3, hxh3⟩ ha3 hb3 => ?_))
      refine SOps.st rfl rfl (Yv.move rfl).yl ?_
      refine SOps.one rfl (One.buildSliceG (pv := [(0, _), (1, _), (2, _), (3, _), (4, _), (5, _), (6, _)]) (cs := [_, _, _, _, _, _, _]) (fun l => match l with | [a0_0, a1_0, a2_0, a3_0, a4_0, a5_0, a6_0] => [a0_0, a1_0, a2_0, a3_0, a4_0, a5_0, a6_0] | _ => []) rfl el85 (.cons rfl (.cons rfl (.cons rfl (.cons rfl (.cons rfl (.cons rfl (.cons rfl (.nil)))))))) rfl rfl (by kernel_rfl) rfl rfl (fun b2 => ?_))
      refine SOps.one rfl (One.callC (i := 2) (H' := fun _ _ => [_, _, _]) rfl callable79 (.cons rfl (.cons rfl (.nil))) rfl (fun w' hw' => among_spec (Cur.lent hc (i := 2) rfl hw') (by omega) (by omega) (l := [0, 0, 1, 2, 10, 46, 47]) ((Rd.row (i := 0) rfl) w' hw') (by simp; try omega) (by first | omega | simp) (by first | omega | simp) (fun hm => HOk.rowNe hw' (i := 2) (j := 0) rfl rfl rfl (by first | exact hm | omega))) (fun _ _ => rfl) (fun x4 at4 sd4 hx4 ha4 hb4 => ?_))
      refine SOps.one rfl (One.callRow rfl callable23 (.cons rfl (.cons rfl (.cons rfl (.cons rfl (.cons rfl (.nil)))))) (fun w' hw' => sBookSlot_spec ((Rd.row (i := 1) rfl) w' hw') (by omega)) (fun A1 c1 => ?_))
      refine SOps.st rfl rfl (Yv.move rfl).yl ?_
      refine SOps.st rfl rfl (Yv.extract rfl rfl).yl ?_
      refine SOps.st rfl rfl (Yv.extract rfl rfl).yl ?_
      refine SOps.st rfl rfl (Yv.extract rfl rfl).yl ?_
      refine SOps.st rfl rfl (Yv.assign rfl).yl ?_
      refine SOps.st rfl rfl (Yv.assign rfl).yl ?_
      refine SOps.st rfl rfl (Yv.assign rfl).yl ?_
      refine SOps.nil ?_
      refine Run.seq ?_
      refine Run.quiet (by intro h; cases h) ?_
      refine QOps.st rfl rfl (Yv.move rfl).yl ?_
      refine QOps.nil ?_
      refine Run.cond rfl (fun hc2 => ?_) (fun hc2 => ?_)
      · try replace hc2 := of_decide_eq_true hc2
        have hb : (bookOf room o (1 + x2) x3 x4).2.2 = true := hc2
        have hg := bookOf_good hb
        have hgl := bookOf_len (room := room) (bs := o) (v := 1 + x2) (lock := x3) (slot := x4)
        have h9 := one_number (bad_head ((are_parts hg.1).2.2 ((bookOf room o (1 + x2) x3 x4).1.length - 1) (by omega)))
        refine Run.seq ?_
        refine Run.quiet (by intro h; cases h) ?_
        refine QOps.st rfl rfl (Yv.move rfl).yl ?_
        refine QOps.st rfl rfl (Yv.assign rfl).yl ?_
        refine QOps.nil ?_
        refine Run.seq ?_
        refine Run.ops ?_
        refine SOps.st rfl rfl (Yv.move rfl).yl ?_
        refine SOps.one rfl (One.callC (i := 3) (H' := fun _ _ => [_, _, _, _]) rfl callable88 (.cons rfl (.cons rfl (.nil))) rfl (fun w' hw' => one_spec (Cur.lent hc (i := 3) rfl hw') (by omega) (by omega)) (fun _ _ => rfl) (fun x5 at5 sd5 _ ha5 hb5 => ?_))
        refine SOps.nil ?_
        refine Run.cond rfl (fun hc3 => ?_) (fun hc3 => ?_)
        · try replace hc3 := of_decide_eq_true hc3
          refine Run.seq ?_
          refine Run.ops ?_
          refine SOps.st rfl rfl (Yv.move rfl).yl ?_
          refine SOps.st rfl rfl (Yv.move rfl).yl ?_
          refine SOps.st rfl rfl (Yv.lenS el25s rfl).yl ?_
          refine SOps.st rfl rfl (Yv.sub rfl rfl (by omega)).yl ?_
          refine SOps.st rfl rfl (Yv.indexAddr ((bookOf room o (1 + x2) x3 x4).1.length - 1) el25 rfl rfl (by omega) (Rd.row (i := 0) rfl) (by omega)).yl ?_
          refine SOps.st rfl rfl (Yv.loadEs lay49 rfl Booking.len (Rd.row (i := 0) rfl) (by first | omega | (simp; omega)) (by decide)).yl ?_
          refine SOps.one rfl (One.alloc rfl zero49 (fun b3 => ?_))
          refine SOps.one rfl (One.store (i := 0) (off := 0) (vs := [_, _, _, _]) (cs' := [_, _, _, _]) (H' := [_, _, _, _, _]) lay49 rfl rfl rfl rfl rfl rfl rfl rfl rfl rfl ?_)
          refine SOps.nil ?_
          refine Run.seq ?_
          refine Run.draws (fun H => ((H).eraseIdx 4).eraseIdx 0) (m := 7) (listed := #[false, false, false, false, false, false, false]) (by kernel_rfl) rfl rfl ?_
          refine DOps.take (listed' := #[true, false, false, false, false, false, false]) 0 rfl (by kernel_rfl) rfl (List.Sublist.cons _ (List.Sublist.cons_cons _ (List.Sublist.cons_cons _ (List.Sublist.cons_cons _ (List.nil_sublist _))))) rfl rfl (Yv.fieldAddr fld49_0 rfl) ?_
          refine DOps.take (listed' := #[true, false, true, false, false, false, false]) 2 rfl (by kernel_rfl) rfl (List.Sublist.cons _ (List.Sublist.cons_cons _ (List.Sublist.cons_cons _ (List.Sublist.cons_cons _ (List.nil_sublist _))))) rfl rfl (Yv.move rfl) ?_
          refine DOps.fork2 (l1 := #[true, true, true, false, false, false, false]) (l2 := #[true, false, true, true, false, false, false]) 1 3 rfl rfl (by kernel_rfl) rfl rfl rfl rfl ?_ ?_
          ·
            refine One.st rfl (Yv.loadB (i := 0) lay3 rfl rfl rfl rfl).yl ?_
            refine ⟨(List.Sublist.cons _ (List.Sublist.cons_cons _ (List.Sublist.cons_cons _ (List.Sublist.cons_cons _ (List.nil_sublist _))))), ?_⟩
            refine DOps.only (listed' := #[true, true, true, true, false, false, false]) 3 rfl (by kernel_rfl) rfl rfl ?_
            refine One.callC (i := 4) (H' := fun _ _ => [_, _, _, _, _]) rfl callable80 (.cons rfl (.cons rfl (.nil))) rfl (fun w' hw' => pick_spec (Cur.lent hc (i := 4) rfl hw') (by omega) (by omega)) (fun _ _ => rfl) (fun x6 at6 sd6 ⟨hxl6, hxh6⟩ ha6 hb6 => ?_)
            refine ⟨(List.Sublist.cons _ (List.Sublist.cons_cons _ (List.Sublist.cons_cons _ (List.Sublist.cons_cons _ (List.nil_sublist _))))), ?_⟩
            refine DOps.take (listed' := #[true, true, true, true, true, false, false]) 4 rfl (by kernel_rfl) rfl (List.Sublist.cons _ (List.Sublist.cons_cons _ (List.Sublist.cons_cons _ (List.Sublist.cons_cons _ (List.nil_sublist _))))) rfl rfl (Yv.add rfl rfl (by omega)) ?_
            refine DOps.take (listed' := #[true, true, true, true, true, true, false]) 5 rfl (by kernel_rfl) rfl (List.Sublist.cons _ (List.Sublist.cons_cons _ (List.Sublist.cons_cons _ (List.Sublist.cons_cons _ (List.nil_sublist _))))) rfl rfl (Yv.fieldAddr fld49_0 rfl) ?_
            refine DOps.only (listed' := #[true, true, true, true, true, true, true]) 6 rfl (by kernel_rfl) rfl rfl ?_
            refine One.store (i := 0) (off := 0) (vs := [_]) (cs' := [_, _, _, _]) (H' := [_, _, _, _, _]) lay3 rfl rfl rfl rfl rfl rfl rfl rfl rfl rfl ?_
            refine ⟨(List.Sublist.cons _ (List.Sublist.cons_cons _ (List.Sublist.cons_cons _ (List.Sublist.cons_cons _ (List.nil_sublist _))))), ?_⟩
            refine DOps.done (by kernel_rfl) ?_
            refine Run.ops ?_
            refine SOps.st rfl rfl (Yv.move rfl).yl ?_
            refine SOps.st rfl rfl (Yv.move rfl).yl ?_
            refine SOps.st rfl rfl (Yv.lenS el25s rfl).yl ?_
            refine SOps.st rfl rfl (Yv.sub rfl rfl (by omega)).yl ?_
            refine SOps.st rfl rfl (Yv.loadBs (i := 0) lay49 rfl rfl rfl rfl).yl ?_
            refine SOps.st rfl rfl (Yv.indexAddr ((bookOf room o (1 + x2) x3 x4).1.length - 1) el25 rfl rfl (by omega) (Rd.row (i := 1) rfl) (by omega)).yl ?_
            refine SOps.one rfl (One.storeE (i := 1) (k := ((bookOf room o (1 + x2) x3 x4).1.length - 1)) (f := 0) (H' := [_, _, _, _, _]) (e := ⟨(nth (bookOf room o (1 + x2) x3 x4).1 ((bookOf room o (1 + x2) x3 x4).1.length - 1)).number + x6, (nth (bookOf room o (1 + x2) x3 x4).1 ((bookOf room o (1 + x2) x3 x4).1.length - 1)).vessel, (nth (bookOf room o (1 + x2) x3 x4).1 ((bookOf room o (1 + x2) x3 x4).1.length - 1)).lock, (nth (bookOf room o (1 + x2) x3 x4).1 ((bookOf room o (1 + x2) x3 x4).1.length - 1)).slot⟩) lay49 rfl rfl rfl Booking.len rfl (by decide) rfl rfl rfl rfl (by omega) rfl ?_)
            refine SOps.nil ?_
            refine Run.quiet (by intro h; cases h) ?_
            refine QOps.st rfl rfl (Yv.move rfl).yl ?_
            refine QOps.st rfl rfl (Yv.sub rfl rfl (by omega)).yl ?_
            refine QOps.st rfl rfl (Yv.assign rfl).yl ?_
            refine QOps.nil ?_
            refine ⟨(z - 1, _, _, _, _, _, _), ?_, ?_, (SubE.cons rfl (SubE.cons rfl (SubE.cons rfl (SubE.cons rfl (SubE.nil _))))), (List.Sublist.cons _ (List.Sublist.cons_cons _ (List.Sublist.cons _ (List.Sublist.cons _ (List.Sublist.refl _)))))⟩
            · refine ⟨by omega, by omega, ?_, by omega, by omega, ?_⟩ <;> first | rfl | omega | (simp; done) | (simp; omega)
            · first | omega | (dsimp only; omega)
          ·
            refine One.callC (i := 4) (H' := fun _ _ => [_, _, _, _, _]) rfl callable80 (.cons rfl (.cons rfl (.nil))) rfl (fun w' hw' => pick_spec (Cur.lent hc (i := 4) rfl hw') (by omega) (by omega)) (fun _ _ => rfl) (fun x6 at6 sd6 ⟨hxl6, hxh6⟩ ha6 hb6 => ?_)
            refine ⟨(List.Sublist.cons _ (List.Sublist.cons_cons _ (List.Sublist.cons_cons _ (List.Sublist.cons_cons _ (List.nil_sublist _))))), ?_⟩
            refine DOps.only (listed' := #[true, true, true, true, false, false, false]) 1 rfl (by kernel_rfl) rfl rfl ?_
            refine One.st rfl (Yv.loadB (i := 0) lay3 rfl rfl rfl rfl).yl ?_
            refine ⟨(List.Sublist.cons _ (List.Sublist.cons_cons _ (List.Sublist.cons_cons _ (List.Sublist.cons_cons _ (List.nil_sublist _))))), ?_⟩
            refine DOps.take (listed' := #[true, true, true, true, true, false, false]) 4 rfl (by kernel_rfl) rfl (List.Sublist.cons _ (List.Sublist.cons_cons _ (List.Sublist.cons_cons _ (List.Sublist.cons_cons _ (List.nil_sublist _))))) rfl rfl (Yv.add rfl rfl (by omega)) ?_
            refine DOps.take (listed' := #[true, true, true, true, true, true, false]) 5 rfl (by kernel_rfl) rfl (List.Sublist.cons _ (List.Sublist.cons_cons _ (List.Sublist.cons_cons _ (List.Sublist.cons_cons _ (List.nil_sublist _))))) rfl rfl (Yv.fieldAddr fld49_0 rfl) ?_
            refine DOps.only (listed' := #[true, true, true, true, true, true, true]) 6 rfl (by kernel_rfl) rfl rfl ?_
            refine One.store (i := 0) (off := 0) (vs := [_]) (cs' := [_, _, _, _]) (H' := [_, _, _, _, _]) lay3 rfl rfl rfl rfl rfl rfl rfl rfl rfl rfl ?_
            refine ⟨(List.Sublist.cons _ (List.Sublist.cons_cons _ (List.Sublist.cons_cons _ (List.Sublist.cons_cons _ (List.nil_sublist _))))), ?_⟩
            refine DOps.done (by kernel_rfl) ?_
            refine Run.ops ?_
            refine SOps.st rfl rfl (Yv.move rfl).yl ?_
            refine SOps.st rfl rfl (Yv.move rfl).yl ?_
            refine SOps.st rfl rfl (Yv.lenS el25s rfl).yl ?_
            refine SOps.st rfl rfl (Yv.sub rfl rfl (by omega)).yl ?_
            refine SOps.st rfl rfl (Yv.loadBs (i := 0) lay49 rfl rfl rfl rfl).yl ?_
            refine SOps.st rfl rfl (Yv.indexAddr ((bookOf room o (1 + x2) x3 x4).1.length - 1) el25 rfl rfl (by omega) (Rd.row (i := 1) rfl) (by omega)).yl ?_
            refine SOps.one rfl (One.storeE (i := 1) (k := ((bookOf room o (1 + x2) x3 x4).1.length - 1)) (f := 0) (H' := [_, _, _, _, _]) (e := ⟨(nth (bookOf room o (1 + x2) x3 x4).1 ((bookOf room o (1 + x2) x3 x4).1.length - 1)).number + x6, (nth (bookOf room o (1 + x2) x3 x4).1 ((bookOf room o (1 + x2) x3 x4).1.length - 1)).vessel, (nth (bookOf room o (1 + x2) x3 x4).1 ((bookOf room o (1 + x2) x3 x4).1.length - 1)).lock, (nth (bookOf room o (1 + x2) x3 x4).1 ((bookOf room o (1 + x2) x3 x4).1.length - 1)).slot⟩) lay49 rfl rfl rfl Booking.len rfl (by decide) rfl rfl rfl rfl (by omega) rfl ?_)
            refine SOps.nil ?_
            refine Run.quiet (by intro h; cases h) ?_
            refine QOps.st rfl rfl (Yv.move rfl).yl ?_
            refine QOps.st rfl rfl (Yv.sub rfl rfl (by omega)).yl ?_
            refine QOps.st rfl rfl (Yv.assign rfl).yl ?_
            refine QOps.nil ?_
            refine ⟨(z - 1, _, _, _, _, _, _), ?_, ?_, (SubE.cons rfl (SubE.cons rfl (SubE.cons rfl (SubE.cons rfl (SubE.nil _))))), (List.Sublist.cons _ (List.Sublist.cons_cons _ (List.Sublist.cons _ (List.Sublist.cons _ (List.Sublist.refl _)))))⟩
            · refine ⟨by omega, by omega, ?_, by omega, by omega, ?_⟩ <;> first | rfl | omega | (simp; done) | (simp; omega)
            · first | omega | (dsimp only; omega)
        · try replace hc3 := of_decide_eq_false hc3
          refine Run.skip ?_
          refine Run.quiet (by intro h; cases h) ?_
          refine QOps.st rfl rfl (Yv.move rfl).yl ?_
          refine QOps.st rfl rfl (Yv.sub rfl rfl (by omega)).yl ?_
          refine QOps.st rfl rfl (Yv.assign rfl).yl ?_
          refine QOps.nil ?_
          refine ⟨(z - 1, _, _, _, _, _, _), ?_, ?_, (SubE.cons rfl (SubE.cons rfl (SubE.cons rfl (SubE.cons rfl (SubE.nil _))))), (List.Sublist.cons_cons _ (List.Sublist.cons _ (List.Sublist.cons _ (List.Sublist.refl _))))⟩
          · refine ⟨by omega, by omega, ?_, by omega, by omega, ?_⟩ <;> first | rfl | omega | (simp; done) | (simp; omega)
          · first | omega | (dsimp only; omega)
      · try replace hc2 := of_decide_eq_false hc2
        refine Run.skip ?_
        refine Run.quiet (by intro h; cases h) ?_
        refine QOps.st rfl rfl (Yv.move rfl).yl ?_
        refine QOps.st rfl rfl (Yv.sub rfl rfl (by omega)).yl ?_
        refine QOps.st rfl rfl (Yv.assign rfl).yl ?_
        refine QOps.nil ?_
        refine ⟨(z - 1, _, o, A2, c2, _, _), ?_, ?_, (SubE.cons rfl (SubE.cons rfl (SubE.cons rfl (SubE.cons rfl (SubE.nil _))))), (List.Sublist.cons _ (List.Sublist.cons _ (List.Sublist.refl _)))⟩
        · refine ⟨by omega, by omega, ?_, by omega, by omega, ?_⟩ <;> first | rfl | omega | (simp; done) | (simp; omega)
        · first | omega | (dsimp only; omega)
    · try replace hc1 := of_decide_eq_false hc1
      refine Run.exit ?_
      refine Run.seq ?_
      refine Run.seq ?_
      refine Run.ops ?_
      refine SOps.st rfl rfl (Yv.move rfl).yl ?_
      refine SOps.one rfl (One.callC (i := 1) (H' := fun _ _ => [_, _]) rfl callable80 (.cons rfl (.cons rfl (.nil))) rfl (fun w' hw' => pick_spec (Cur.lent hc (i := 1) rfl hw') (by omega) (by omega)) (fun _ _ => rfl) (fun x7 at7 sd7 ⟨hxl7, hxh7⟩ ha7 hb7 => ?_))
      refine SOps.nil ?_
      refine Run.block ?_
      refine Run.seq ?_
      refine Run.quiet (by intro h; cases h) ?_
      refine QOps.st rfl rfl (Yv.eqI rfl rfl).yl ?_
      refine QOps.st rfl rfl (Yv.assign rfl).yl ?_
      refine QOps.nil ?_
      refine Run.cond rfl (fun hc4 => ?_) (fun hc4 => ?_)
      · try replace hc4 := of_decide_eq_true hc4
        refine Run.ops ?_
        refine SOps.st rfl rfl (Yv.move rfl).yl ?_
        refine SOps.st rfl rfl (Yv.move rfl).yl ?_
        refine SOps.one rfl (One.buildSliceG (pv := [(0, _), (1, _), (2, _), (3, _)]) (cs := [_, _, _, _]) (fun l => match l with | [a0_0, a1_0, a2_0, a3_0] => [a0_0, a1_0, a2_0, a3_0] | _ => []) rfl el85 (.cons rfl (.cons rfl (.cons rfl (.cons rfl (.nil))))) rfl rfl (by kernel_rfl) rfl rfl (fun b4 => ?_))
        refine SOps.one rfl (One.callC (i := 2) (H' := fun _ _ => [_, _, _]) rfl callable79 (.cons rfl (.cons rfl (.nil))) rfl (fun w' hw' => among_spec (Cur.lent hc (i := 2) rfl hw') (by omega) (by omega) (l := [0, 1, 999, 1000]) ((Rd.row (i := 0) rfl) w' hw') (by simp; try omega) (by first | omega | simp) (by first | omega | simp) (fun hm => HOk.rowNe hw' (i := 2) (j := 0) rfl rfl rfl (by first | exact hm | omega))) (fun _ _ => rfl) (fun x8 at8 sd8 hx8 ha8 hb8 => ?_))
        refine SOps.st rfl rfl (Yv.move rfl).yl ?_
        refine SOps.one rfl (One.buildSliceG (pv := [(0, _), (1, _), (2, _)]) (cs := [_, _, _]) (fun l => match l with | [a0_0, a1_0, a2_0] => [a0_0, a1_0, a2_0] | _ => []) rfl el85 (.cons rfl (.cons rfl (.cons rfl (.nil)))) rfl rfl (by kernel_rfl) rfl rfl (fun b5 => ?_))
        refine SOps.one rfl (One.callC (i := 3) (H' := fun _ _ => [_, _, _, _]) rfl callable79 (.cons rfl (.cons rfl (.nil))) rfl (fun w' hw' => among_spec (Cur.lent hc (i := 3) rfl hw') (by omega) (by omega) (l := [0, 50, 100]) ((Rd.row (i := 0) rfl) w' hw') (by simp; try omega) (by first | omega | simp) (by first | omega | simp) (fun hm => HOk.rowNe hw' (i := 3) (j := 0) rfl rfl rfl (by first | exact hm | omega))) (fun _ _ => rfl) (fun x9 at9 sd9 hx9 ha9 hb9 => ?_))
        refine SOps.st rfl rfl (Yv.move rfl).yl ?_
        refine SOps.one rfl (One.buildSliceG (pv := [(0, _), (1, _), (2, _)]) (cs := [_, _, _]) (fun l => match l with | [a0_0, a1_0, a2_0] => [a0_0, a1_0, a2_0] | _ => []) rfl el85 (.cons rfl (.cons rfl (.cons rfl (.nil)))) rfl rfl (by kernel_rfl) rfl rfl (fun b6 => ?_))
        refine SOps.one rfl (One.callC (i := 4) (H' := fun _ _ => [_, _, _, _, _]) rfl callable79 (.cons rfl (.cons rfl (.nil))) rfl (fun w' hw' => among_spec (Cur.lent hc (i := 4) rfl hw') (by omega) (by omega) (l := [(-1), 4, 5]) ((Rd.row (i := 0) rfl) w' hw') (by simp; try omega) (by first | omega | simp) (by first | omega | simp) (fun hm => HOk.rowNe hw' (i := 4) (j := 0) rfl rfl rfl (by first | exact hm | omega))) (fun _ _ => rfl) (fun x10 at10 sd10 hx10 ha10 hb10 => ?_))
        refine SOps.st rfl rfl (Yv.move rfl).yl ?_
        refine SOps.one rfl (One.buildSliceG (pv := [(0, _), (1, _), (2, _)]) (cs := [_, _, _]) (fun l => match l with | [a0_0, a1_0, a2_0] => [a0_0, a1_0, a2_0] | _ => []) rfl el85 (.cons rfl (.cons rfl (.cons rfl (.nil)))) rfl rfl (by kernel_rfl) rfl rfl (fun b7 => ?_))
        refine SOps.one rfl (One.callC (i := 5) (H' := fun _ _ => [_, _, _, _, _, _]) rfl callable79 (.cons rfl (.cons rfl (.nil))) rfl (fun w' hw' => among_spec (Cur.lent hc (i := 5) rfl hw') (by omega) (by omega) (l := [(-1), 47, 48]) ((Rd.row (i := 0) rfl) w' hw') (by simp; try omega) (by first | omega | simp) (by first | omega | simp) (fun hm => HOk.rowNe hw' (i := 5) (j := 0) rfl rfl rfl (by first | exact hm | omega))) (fun _ _ => rfl) (fun x11 at11 sd11 hx11 ha11 hb11 => ?_))
        refine SOps.st rfl rfl (Yv.buildG (pv := [(0, _), (1, _), (2, _), (3, _)]) (cs := [_, _, _, _]) (fun l => match l with | [a0_0, a1_0, a2_0, a3_0] => [a0_0, a1_0, a2_0, a3_0] | _ => []) (.cons rfl (.cons rfl (.cons rfl (.cons rfl (.nil))))) rfl rfl (by kernel_rfl)).yl ?_
        refine SOps.one rfl (One.buildSliceG (pv := [(0, _)]) (cs := [_, _, _, _]) (fun l => match l with | [.agg ⟨[a0_0, a0_1, a0_2, a0_3]⟩] => [a0_0, a0_1, a0_2, a0_3] | _ => []) rfl el25 (.cons rfl (.nil)) rfl rfl (by kernel_rfl) rfl rfl (fun b8 => ?_))
        refine SOps.one rfl (One.append (enc := Booking.enc) (l := o) (l2 := [⟨x8, x9, x10, x11⟩]) (m' := (o ++ [(⟨x8, x9, x10, x11⟩ : Booking)]).length) (i := 5) (H' := fun A c => [_, _, _, _, _, _, _]) rfl el25 zero49 rfl (by decide) rfl rfl rfl (Rd.row (i := 0) rfl) (fun _ => rfl) (by simp) (by simp; omega) (by simp; omega) (fun _ _ => rfl) (fun A2 c2 => ?_))
        refine SOps.st rfl rfl (Yv.assign rfl).yl ?_
        refine SOps.nil ?_
        refine Run.seq ?_
        refine Run.quiet (by intro h; cases h) ?_
        refine QOps.st rfl rfl (Yv.move rfl).yl ?_
        refine QOps.st rfl rfl (Yv.assign rfl).yl ?_
        refine QOps.nil ?_
        refine Run.ret ?_
        refine retQ.of (.inr rfl) rfl (.tmp rfl .nil) (fun w' hw' => ?_)
        exact retCR_of ((o ++ [(⟨x8, x9, x10, x11⟩ : Booking)])) (by first | rfl | simp) rfl (by first | omega | (simp; omega)) (by omega) (by omega) hw'.bel (hw'.ent _ (List.mem_of_getElem? (i := 6) rfl)) (hw'.ent _ (List.mem_of_getElem? (i := 5) rfl)) (HOk.newRow hw' (i := 6) (j := 5) rfl rfl rfl)
      · try replace hc4 := of_decide_eq_false hc4
        refine Run.seq ?_
        refine Run.quiet (by intro h; cases h) ?_
        refine QOps.st rfl rfl (Yv.eqI rfl rfl).yl ?_
        refine QOps.st rfl rfl (Yv.assign rfl).yl ?_
        refine QOps.nil ?_
        refine Run.cond rfl (fun hc5 => ?_) (fun hc5 => ?_)
        · try replace hc5 := of_decide_eq_true hc5
          refine Run.seq ?_
          refine Run.ops ?_
          refine SOps.one rfl (One.buildSliceG (pv := []) (cs := []) (fun _ => []) rfl el25 .nil rfl rfl (by kernel_rfl) rfl rfl (fun b9 => ?_))
          refine SOps.st rfl rfl (Yv.assign rfl).yl ?_
          refine SOps.nil ?_
          refine Run.seq ?_
          refine Run.quiet (by intro h; cases h) ?_
          refine QOps.st rfl rfl (Yv.assign rfl).yl ?_
          refine QOps.nil ?_
          refine Run.block ?_
          refine Run.loop (S := Nat × Nat × List Booking × Option Addr × Nat × Int × Int) (fun s => match s with | (k, nn, o, A2, c2, a3, s3) => k ≤ 12 ∧ nn = k ∧ at_ ≤ a3 ∧ a3 ≤ at_ + 90 + 2 * (k : Int) ∧ o.length = nn) (fun s => match s with | (k, nn, o, A2, c2, a3, s3) => [(0, .pointer (some ⟨g, 0, none⟩)), (5, .slice A2 nn c2), (11, .int .i64 (k : Int))]) (fun s => match s with | (k, nn, o, A2, c2, a3, s3) => [.row A2 c2 49 4 nn (o.flatMap Booking.enc), .blk g 80 [.slice A m c, .int .i64 a3, .int .u64 s3]]) (fun s => match s with | (k, nn, o, A2, c2, a3, s3) => 12 - k) (0, 0, [], some ⟨_, 0, none⟩, 0, _, _) ?_ (SubE.cons rfl (SubE.cons rfl (SubE.cons rfl (SubE.nil _)))) (List.Sublist.cons_cons _ (List.Sublist.cons _ (List.Sublist.refl _))) ?_
          · exact ⟨by omega, by omega, by omega, by omega, rfl⟩
          · rintro ⟨k, nn, o, A2, c2, a3, s3⟩ ⟨hk12, hnk, ha3l, ha3h, hnn⟩
            show Run _ _ _ _ _ [(0, .pointer (some ⟨g, 0, none⟩)), (5, .slice A2 nn c2), (11, .int .i64 (k : Int))] [.row A2 c2 49 4 nn (o.flatMap Booking.enc), .blk g 80 [.slice A m c, .int .i64 a3, .int .u64 s3]] _
            subst hnn
            refine Run.seq ?_
            refine Run.seq ?_
            refine Run.ops ?_
            refine SOps.st rfl rfl (Yv.move rfl).yl ?_
            refine SOps.st rfl rfl (Yv.move rfl).yl ?_
            refine SOps.one rfl (One.callC (i := 1) (H' := fun _ _ => [_, _]) rfl callable80 (.cons rfl (.cons rfl (.nil))) rfl (fun w' hw' => pick_spec (Cur.lent hc (i := 1) rfl hw') (by omega) (by omega)) (fun _ _ => rfl) (fun x12 at12 sd12 ⟨hxl12, hxh12⟩ ha12 hb12 => ?_))
            refine SOps.st rfl rfl (Yv.add rfl rfl (by omega)).yl ?_
            refine SOps.st rfl rfl (Yv.lss rfl rfl).yl ?_
            refine SOps.nil ?_
            refine Run.cond rfl (fun hc6 => ?_) (fun hc6 => ?_)
            · try replace hc6 := of_decide_eq_true hc6
              refine Run.skip ?_
              refine Run.seq ?_
              refine Run.block ?_
              refine Run.ops ?_
              refine SOps.st rfl rfl (Yv.move rfl).yl ?_
              refine SOps.st rfl rfl (Yv.move rfl).yl ?_
              refine SOps.st rfl rfl (Yv.succN rfl rfl (by omega)).yl ?_
              refine SOps.st rfl rfl (Yv.move rfl).yl ?_
              refine SOps.st rfl rfl (Yv.succN rfl rfl (by omega)).yl ?_
              refine SOps.st rfl rfl (Yv.move rfl).yl ?_
              refine SOps.st rfl rfl (Yv.buildG (pv := [(0, _), (1, _), (3, _)]) (cs := [_, _, _, _]) (fun l => match l with | [a0_0, a1_0, a2_0] => [a0_0, a1_0, .int .i64 0, a2_0] | _ => []) (.cons rfl (.cons rfl (.cons rfl (.nil)))) rfl rfl (by kernel_rfl)).yl ?_
              refine SOps.one rfl (One.buildSliceG (pv := [(0, _)]) (cs := [_, _, _, _]) (fun l => match l with | [.agg ⟨[a0_0, a0_1, a0_2, a0_3]⟩] => [a0_0, a0_1, a0_2, a0_3] | _ => []) rfl el25 (.cons rfl (.nil)) rfl rfl (by kernel_rfl) rfl rfl (fun b10 => ?_))
              refine SOps.one rfl (One.append (enc := Booking.enc) (l := o) (l2 := [⟨((k + 1 : Nat) : Int), ((k + 1 : Nat) : Int), 0, (k : Int)⟩]) (m' := (o ++ [(⟨((k + 1 : Nat) : Int), ((k + 1 : Nat) : Int), 0, (k : Int)⟩ : Booking)]).length) (i := 1) (H' := fun A c => [_, _, _]) rfl el25 zero49 rfl (by decide) rfl rfl rfl (Rd.row (i := 0) rfl) (fun _ => rfl) (by simp) (by simp; omega) (by simp; omega) (fun _ _ => rfl) (fun A3 c3 => ?_))
              refine SOps.st rfl rfl (Yv.assign rfl).yl ?_
              refine SOps.nil ?_
              refine Run.quiet (by intro h; cases h) ?_
              refine QOps.st rfl rfl (Yv.move rfl).yl ?_
              refine QOps.st rfl rfl (Yv.succN rfl rfl (by omega)).yl ?_
              refine QOps.st rfl rfl (Yv.assign rfl).yl ?_
              refine QOps.nil ?_
              refine ⟨(k + 1, _, _, _, _, _, _), ?_, ?_, (SubE.cons rfl (SubE.cons rfl (SubE.cons rfl (SubE.nil _)))), (List.Sublist.cons _ (List.Sublist.refl _))⟩
              · refine ⟨by omega, ?_, by omega, by omega, ?_⟩ <;> first | rfl | omega | (simp; done) | (simp; omega)
              · first | omega | (dsimp only; omega)
            · try replace hc6 := of_decide_eq_false hc6
              refine Run.exit ?_
              refine Run.seq ?_
              refine Run.quiet (by intro h; cases h) ?_
              refine QOps.st rfl rfl (Yv.move rfl).yl ?_
              refine QOps.st rfl rfl (Yv.assign rfl).yl ?_
              refine QOps.nil ?_
              refine Run.ret ?_
              refine retQ.of (.inr rfl) rfl (.tmp rfl .nil) (fun w' hw' => ?_)
              exact retCR_of (o) (by first | rfl | simp) rfl (by first | omega | (simp; omega)) (by omega) (by omega) hw'.bel (hw'.ent _ (List.mem_of_getElem? (i := 1) rfl)) (hw'.ent _ (List.mem_of_getElem? (i := 0) rfl)) (HOk.newRow hw' (i := 1) (j := 0) rfl rfl rfl)
        · try replace hc5 := of_decide_eq_false hc5
          refine Run.seq ?_
          refine Run.quiet (by intro h; cases h) ?_
          refine QOps.st rfl rfl (Yv.eqI rfl rfl).yl ?_
          refine QOps.st rfl rfl (Yv.assign rfl).yl ?_
          refine QOps.nil ?_
          refine Run.cond rfl (fun hc7 => ?_) (fun hc7 => ?_)
          · try replace hc7 := of_decide_eq_true hc7
            refine Run.seq ?_
            refine Run.quiet (by intro h; cases h) ?_
            refine QOps.st rfl rfl (Yv.move rfl).yl ?_
            refine QOps.st rfl rfl (Yv.lenS el25s rfl).yl ?_
            refine QOps.st rfl rfl (Yv.gtr rfl rfl).yl ?_
            refine QOps.nil ?_
            refine Run.cond rfl (fun hc8 => ?_) (fun hc8 => ?_)
            · try replace hc8 := of_decide_eq_true hc8
              refine Run.seq ?_
              refine Run.ops ?_
              refine SOps.st rfl rfl (Yv.move rfl).yl ?_
              refine SOps.st rfl rfl (Yv.move rfl).yl ?_
              refine SOps.st rfl rfl (Yv.lenS el25s rfl).yl ?_
              refine SOps.st rfl rfl (Yv.sub rfl rfl (by omega)).yl ?_
              refine SOps.st rfl rfl (Yv.indexAddr (o.length - 1) el25 rfl rfl (by omega) (Rd.row (i := 0) rfl) (by omega)).yl ?_
              refine SOps.st rfl rfl (Yv.loadEs lay49 rfl Booking.len (Rd.row (i := 0) rfl) (by first | omega | (simp; omega)) (by decide)).yl ?_
              refine SOps.one rfl (One.alloc rfl zero49 (fun b11 => ?_))
              refine SOps.one rfl (One.store (i := 0) (off := 0) (vs := [_, _, _, _]) (cs' := [_, _, _, _]) (H' := [_, _, _]) lay49 rfl rfl rfl rfl rfl rfl rfl rfl rfl rfl ?_)
              refine SOps.nil ?_
              refine Run.seq ?_
              refine Run.ops ?_
              refine SOps.st rfl rfl (Yv.fieldAddr fld49_0 rfl).yl ?_
              refine SOps.one rfl (One.store (i := 0) (off := 0) (vs := [_]) (cs' := [_, _, _, _]) (H' := [_, _, _]) lay3 rfl rfl rfl rfl rfl rfl rfl rfl rfl rfl ?_)
              refine SOps.nil ?_
              refine Run.ops ?_
              refine SOps.st rfl rfl (Yv.move rfl).yl ?_
              refine SOps.st rfl rfl (Yv.move rfl).yl ?_
              refine SOps.st rfl rfl (Yv.lenS el25s rfl).yl ?_
              refine SOps.st rfl rfl (Yv.sub rfl rfl (by omega)).yl ?_
              refine SOps.st rfl rfl (Yv.loadBs (i := 0) lay49 rfl rfl rfl rfl).yl ?_
              refine SOps.st rfl rfl (Yv.indexAddr (o.length - 1) el25 rfl rfl (by omega) (Rd.row (i := 1) rfl) (by omega)).yl ?_
              refine SOps.one rfl (One.storeE (i := 1) (k := (o.length - 1)) (f := 0) (H' := [_, _, _]) (e := ⟨999, (nth o (o.length - 1)).vessel, (nth o (o.length - 1)).lock, (nth o (o.length - 1)).slot⟩) lay49 rfl rfl rfl Booking.len rfl (by decide) rfl rfl rfl rfl (by omega) rfl ?_)
              refine SOps.nil ?_
              refine Run.seq ?_
              refine Run.quiet (by intro h; cases h) ?_
              refine QOps.st rfl rfl (Yv.move rfl).yl ?_
              refine QOps.st rfl rfl (Yv.assign rfl).yl ?_
              refine QOps.nil ?_
              refine Run.ret ?_
              refine retQ.of (.inr rfl) rfl (.tmp rfl .nil) (fun w' hw' => ?_)
              exact retCR_of ((o.set (o.length - 1) ⟨999, (nth o (o.length - 1)).vessel, (nth o (o.length - 1)).lock, (nth o (o.length - 1)).slot⟩)) (by first | rfl | simp) rfl (by first | omega | (simp; omega)) (by omega) (by omega) hw'.bel (hw'.ent _ (List.mem_of_getElem? (i := 2) rfl)) (hw'.ent _ (List.mem_of_getElem? (i := 1) rfl)) (HOk.newRow hw' (i := 2) (j := 1) rfl rfl rfl)
            · try replace hc8 := of_decide_eq_false hc8
              refine Run.skip ?_
              refine Run.seq ?_
              refine Run.quiet (by intro h; cases h) ?_
              refine QOps.st rfl rfl (Yv.move rfl).yl ?_
              refine QOps.st rfl rfl (Yv.assign rfl).yl ?_
              refine QOps.nil ?_
              refine Run.ret ?_
              refine retQ.of (.inr rfl) rfl (.tmp rfl .nil) (fun w' hw' => ?_)
              exact retCR_of (o) (by first | rfl | simp) rfl (by first | omega | (simp; omega)) (by omega) (by omega) hw'.bel (hw'.ent _ (List.mem_of_getElem? (i := 1) rfl)) (hw'.ent _ (List.mem_of_getElem? (i := 0) rfl)) (HOk.newRow hw' (i := 1) (j := 0) rfl rfl rfl)
          · try replace hc7 := of_decide_eq_false hc7
            refine Run.skip ?_
            refine Run.seq ?_
            refine Run.quiet (by intro h; cases h) ?_
            refine QOps.st rfl rfl (Yv.move rfl).yl ?_
            refine QOps.st rfl rfl (Yv.assign rfl).yl ?_
            refine QOps.nil ?_
            refine Run.ret ?_
            refine retQ.of (.inr rfl) rfl (.tmp rfl .nil) (fun w' hw' => ?_)
            exact retCR_of (o) (by first | rfl | simp) rfl (by first | omega | (simp; omega)) (by omega) (by omega) hw'.bel (hw'.ent _ (List.mem_of_getElem? (i := 1) rfl)) (hw'.ent _ (List.mem_of_getElem? (i := 0) rfl)) (HOk.newRow hw' (i := 1) (j := 0) rfl rfl rfl)
end Go.Proofs.Ythgekachgpcjbaa
