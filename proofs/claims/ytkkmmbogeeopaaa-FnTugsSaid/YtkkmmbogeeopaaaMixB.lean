/- Tugs, jobs and assignments are drawn. Conditions: none. -/
import Derived.Test.YtkkmmbogeeopaaaMixA
import Derived.Test.YtkkmmbogeeopaaaJn
namespace Go.Proofs.Ytkkmmbogeeopaaa
open Go.RowKit
set_option maxRecDepth 100000
theorem next_spec {w : World} {g m c : Nat} {A : Option Addr} {xs : List UInt8} {at_ sd : Int} (hc : Cur w 83 g A m c xs at_ sd) (h0 : 0 ≤ at_) (h1 : at_ ≤ 9000000000000000000) : Calls Try.prog 91 #[.pointer (some ⟨g, 0, none⟩)] w (RetC w 83 g (.slice A m c) at_ 1 (fun (x : Int) => .int .i64 x) (fun x => 0 ≤ x ∧ x ≤ 255)) := by
  have hxl : xs.length = m := by have := hc.code.len; rw [flat_len byteC_len] at this; omega
  refine calls_of_run (vs := [_]) (L := [(0, _)]) (n := 62) (F := [g]) (H := [_]) Try.func91 rfl rfl rfl rfl (HOk.lend hc) ?_
  refine Run.seq ?_
  refine Run.quiet (by intro h; cases h) ?_
  refine QOps.st rfl rfl (Yv.assign rfl).yl ?_
  refine QOps.nil ?_
  refine Run.seq ?_
  refine Run.quiet (by intro h; cases h) ?_
  refine QOps.st rfl rfl (Yv.assign rfl).yl ?_
  refine QOps.nil ?_
  refine Run.seq ?_
  refine Run.seq ?_
  refine Run.quiet (fun _ => ⟨by kernel_rfl, by kernel_rfl⟩) ?_
  refine QOps.st rfl rfl (Yv.move rfl).yl ?_
  refine QOps.st rfl rfl (Yv.nilCheck rfl).yl ?_
  refine QOps.st rfl rfl (Yv.fieldAddr fld83_1 rfl).yl ?_
  refine QOps.st rfl rfl (Yv.loadB (i := 0) lay3 rfl rfl rfl rfl).yl ?_
  refine QOps.st rfl rfl (Yv.move rfl).yl ?_
  refine QOps.st rfl rfl (Yv.nilCheck rfl).yl ?_
  refine QOps.st rfl rfl (Yv.fieldAddr fld83_0 rfl).yl ?_
  refine QOps.st rfl rfl (Yv.loadB (i := 0) lay39 rfl rfl rfl rfl).yl ?_
  refine QOps.st rfl rfl (Yv.lenS el39s rfl).yl ?_
  refine QOps.st rfl rfl (Yv.lss rfl rfl).yl ?_
  refine QOps.nil ?_
  refine Run.cond rfl (fun hc1 => ?_) (fun hc1 => ?_)
  · try replace hc1 := of_decide_eq_true hc1
    refine Run.quiet (fun _ => ⟨by kernel_rfl, by kernel_rfl⟩) ?_
    refine QOps.st rfl rfl (Yv.move rfl).yl ?_
    refine QOps.st rfl rfl (Yv.nilCheck rfl).yl ?_
    refine QOps.st rfl rfl (Yv.fieldAddr fld83_0 rfl).yl ?_
    refine QOps.st rfl rfl (Yv.loadB (i := 0) lay39 rfl rfl rfl rfl).yl ?_
    refine QOps.st rfl rfl (Yv.move rfl).yl ?_
    refine QOps.st rfl rfl (Yv.nilCheck rfl).yl ?_
    refine QOps.st rfl rfl (Yv.fieldAddr fld83_1 rfl).yl ?_
    refine QOps.st rfl rfl (Yv.loadB (i := 0) lay3 rfl rfl rfl rfl).yl ?_
    refine QOps.st rfl rfl (Yv.indexAddr at_.toNat el39 rfl rfl (by omega) hc.rd (by omega)).yl ?_
    refine QOps.st rfl rfl (Yv.loadE lay5 rfl byteC_len hc.rd (by omega) rfl).yl ?_
    refine QOps.st rfl rfl (Yv.conv int5 int3 rfl).yl ?_
    refine QOps.st rfl rfl (Yv.assign rfl).yl ?_
    refine QOps.nil ?_
    refine Run.seq ?_
    refine Run.ops ?_
    refine SOps.st rfl rfl (Yv.move rfl).yl ?_
    refine SOps.st rfl rfl (Yv.nilCheck rfl).yl ?_
    refine SOps.st rfl rfl (Yv.fieldAddr fld83_1 rfl).yl ?_
    refine SOps.st rfl rfl (Yv.loadB (i := 0) lay3 rfl rfl rfl rfl).yl ?_
    refine SOps.st rfl rfl (Yv.add rfl rfl (by omega)).yl ?_
    refine SOps.st rfl rfl (Yv.nilCheck rfl).yl ?_
    refine SOps.st rfl rfl (Yv.fieldAddr fld83_1 rfl).yl ?_
    refine SOps.one rfl (One.store (i := 0) (off := 1) (vs := [_]) (cs' := [_, _, _]) (H' := [_]) lay3 rfl rfl rfl rfl rfl rfl rfl rfl rfl rfl ?_)
    refine SOps.nil ?_
    refine Run.seq ?_
    refine Run.ops ?_
    refine SOps.st rfl rfl (Yv.move rfl).yl ?_
    refine SOps.st rfl rfl (Yv.move rfl).yl ?_
    refine SOps.st rfl rfl (Yv.nilCheck rfl).yl ?_
    refine SOps.st rfl rfl (Yv.fieldAddr fld83_2 rfl).yl ?_
    refine SOps.st rfl rfl (Yv.loadB (i := 0) lay81 rfl rfl rfl rfl).yl ?_
    refine SOps.st rfl rfl (Yv.mulW rfl rfl).yl ?_
    refine SOps.st rfl rfl (Yv.move rfl).yl ?_
    refine SOps.st rfl rfl (Yv.conv int3 int81 rfl).yl ?_
    refine SOps.st rfl rfl (Yv.addW rfl rfl).yl ?_
    refine SOps.st rfl rfl (Yv.addW rfl rfl).yl ?_
    refine SOps.st rfl rfl (Yv.nilCheck rfl).yl ?_
    refine SOps.st rfl rfl (Yv.fieldAddr fld83_2 rfl).yl ?_
    refine SOps.one rfl (One.store (i := 0) (off := 2) (vs := [_]) (cs' := [_, _, _]) (H' := [_]) lay81 rfl rfl rfl rfl rfl rfl rfl rfl rfl rfl ?_)
    refine SOps.nil ?_
    refine Run.seq ?_
    refine Run.seq ?_
    refine Run.quiet (fun _ => ⟨by kernel_rfl, by kernel_rfl⟩) ?_
    refine QOps.st rfl rfl (Yv.move rfl).yl ?_
    refine QOps.st rfl rfl (Yv.nilCheck rfl).yl ?_
    refine QOps.st rfl rfl (Yv.fieldAddr fld83_1 rfl).yl ?_
    refine QOps.st rfl rfl (Yv.loadB (i := 0) lay3 rfl rfl rfl rfl).yl ?_
    refine QOps.st rfl rfl (Yv.move rfl).yl ?_
    refine QOps.st rfl rfl (Yv.nilCheck rfl).yl ?_
    refine QOps.st rfl rfl (Yv.fieldAddr fld83_0 rfl).yl ?_
    refine QOps.st rfl rfl (Yv.loadB (i := 0) lay39 rfl rfl rfl rfl).yl ?_
    refine QOps.st rfl rfl (Yv.lenS el39s rfl).yl ?_
    refine QOps.st rfl rfl (Yv.leq rfl rfl).yl ?_
    refine QOps.nil ?_
    refine Run.cond rfl (fun hc2 => ?_) (fun hc2 => ?_)
    · try replace hc2 := of_decide_eq_true hc2
      refine Run.seq ?_
      refine Run.quiet (by intro h; cases h) ?_
      refine QOps.st rfl rfl (Yv.move rfl).yl ?_
      refine QOps.st rfl rfl (Yv.assign rfl).yl ?_
      refine QOps.nil ?_
      refine Run.ret ?_
      refine retQ.of (.inr rfl) rfl (.tmp rfl .nil) (fun w' hw' => ?_)
      exact ⟨_, _, _, rfl, (by rw [wrap_byte]; have := (nth xs at_.toNat).toNat_lt; omega), by omega, by omega, hw'.bel, hw'.ent _ (List.mem_of_getElem? (i := 0) rfl)⟩
    · try replace hc2 := of_decide_eq_false hc2
      refine Run.skip ?_
      refine Run.seq ?_
      refine Run.quiet (by intro h; cases h) ?_
      refine QOps.st rfl rfl (Yv.move rfl).yl ?_
      refine QOps.st rfl rfl (Yv.nilCheck rfl).yl ?_
      refine QOps.st rfl rfl (Yv.fieldAddr fld83_2 rfl).yl ?_
      refine QOps.st rfl rfl (Yv.loadB (i := 0) lay81 rfl rfl rfl rfl).yl ?_
      refine QOps.st rfl rfl (Yv.shr rfl rfl (by decide)).yl ?_
      refine QOps.st rfl rfl (Yv.and rfl rfl).yl ?_
      refine QOps.st rfl rfl (Yv.conv int81 int3 rfl).yl ?_
      refine QOps.st rfl rfl (Yv.assign rfl).yl ?_
      refine QOps.nil ?_
      refine Run.ret ?_
      refine retQ.of (.inr rfl) rfl (.tmp rfl .nil) (fun w' hw' => ?_)
      exact ⟨_, _, _, rfl, and255, by omega, by omega, hw'.bel, hw'.ent _ (List.mem_of_getElem? (i := 0) rfl)⟩
  · try replace hc1 := of_decide_eq_false hc1
    refine Run.skip ?_
    refine Run.seq ?_
    refine Run.ops ?_
    refine SOps.st rfl rfl (Yv.move rfl).yl ?_
    refine SOps.st rfl rfl (Yv.nilCheck rfl).yl ?_
    refine SOps.st rfl rfl (Yv.fieldAddr fld83_1 rfl).yl ?_
    refine SOps.st rfl rfl (Yv.loadB (i := 0) lay3 rfl rfl rfl rfl).yl ?_
    refine SOps.st rfl rfl (Yv.add rfl rfl (by omega)).yl ?_
    refine SOps.st rfl rfl (Yv.nilCheck rfl).yl ?_
    refine SOps.st rfl rfl (Yv.fieldAddr fld83_1 rfl).yl ?_
    refine SOps.one rfl (One.store (i := 0) (off := 1) (vs := [_]) (cs' := [_, _, _]) (H' := [_]) lay3 rfl rfl rfl rfl rfl rfl rfl rfl rfl rfl ?_)
    refine SOps.nil ?_
    refine Run.seq ?_
    refine Run.ops ?_
    refine SOps.st rfl rfl (Yv.move rfl).yl ?_
    refine SOps.st rfl rfl (Yv.move rfl).yl ?_
    refine SOps.st rfl rfl (Yv.nilCheck rfl).yl ?_
    refine SOps.st rfl rfl (Yv.fieldAddr fld83_2 rfl).yl ?_
    refine SOps.st rfl rfl (Yv.loadB (i := 0) lay81 rfl rfl rfl rfl).yl ?_
    refine SOps.st rfl rfl (Yv.mulW rfl rfl).yl ?_
    refine SOps.st rfl rfl (Yv.move rfl).yl ?_
    refine SOps.st rfl rfl (Yv.conv int3 int81 rfl).yl ?_
    refine SOps.st rfl rfl (Yv.addW rfl rfl).yl ?_
    refine SOps.st rfl rfl (Yv.addW rfl rfl).yl ?_
    refine SOps.st rfl rfl (Yv.nilCheck rfl).yl ?_
    refine SOps.st rfl rfl (Yv.fieldAddr fld83_2 rfl).yl ?_
    refine SOps.one rfl (One.store (i := 0) (off := 2) (vs := [_]) (cs' := [_, _, _]) (H' := [_]) lay81 rfl rfl rfl rfl rfl rfl rfl rfl rfl rfl ?_)
    refine SOps.nil ?_
    refine Run.seq ?_
    refine Run.seq ?_
    refine Run.quiet (fun _ => ⟨by kernel_rfl, by kernel_rfl⟩) ?_
    refine QOps.st rfl rfl (Yv.move rfl).yl ?_
    refine QOps.st rfl rfl (Yv.nilCheck rfl).yl ?_
    refine QOps.st rfl rfl (Yv.fieldAddr fld83_1 rfl).yl ?_
    refine QOps.st rfl rfl (Yv.loadB (i := 0) lay3 rfl rfl rfl rfl).yl ?_
    refine QOps.st rfl rfl (Yv.move rfl).yl ?_
    refine QOps.st rfl rfl (Yv.nilCheck rfl).yl ?_
    refine QOps.st rfl rfl (Yv.fieldAddr fld83_0 rfl).yl ?_
    refine QOps.st rfl rfl (Yv.loadB (i := 0) lay39 rfl rfl rfl rfl).yl ?_
    refine QOps.st rfl rfl (Yv.lenS el39s rfl).yl ?_
    refine QOps.st rfl rfl (Yv.leq rfl rfl).yl ?_
    refine QOps.nil ?_
    refine Run.cond rfl (fun hc3 => ?_) (fun hc3 => ?_)
    · try replace hc3 := of_decide_eq_true hc3
      refine Run.seq ?_
      refine Run.quiet (by intro h; cases h) ?_
      refine QOps.st rfl rfl (Yv.move rfl).yl ?_
      refine QOps.st rfl rfl (Yv.assign rfl).yl ?_
      refine QOps.nil ?_
      refine Run.ret ?_
      refine retQ.of (.inr rfl) rfl (.tmp rfl .nil) (fun w' hw' => ?_)
      exact ⟨_, _, _, rfl, (by omega), by omega, by omega, hw'.bel, hw'.ent _ (List.mem_of_getElem? (i := 0) rfl)⟩
    · try replace hc3 := of_decide_eq_false hc3
      refine Run.skip ?_
      refine Run.seq ?_
      refine Run.quiet (by intro h; cases h) ?_
      refine QOps.st rfl rfl (Yv.move rfl).yl ?_
      refine QOps.st rfl rfl (Yv.nilCheck rfl).yl ?_
      refine QOps.st rfl rfl (Yv.fieldAddr fld83_2 rfl).yl ?_
      refine QOps.st rfl rfl (Yv.loadB (i := 0) lay81 rfl rfl rfl rfl).yl ?_
      refine QOps.st rfl rfl (Yv.shr rfl rfl (by decide)).yl ?_
      refine QOps.st rfl rfl (Yv.and rfl rfl).yl ?_
      refine QOps.st rfl rfl (Yv.conv int81 int3 rfl).yl ?_
      refine QOps.st rfl rfl (Yv.assign rfl).yl ?_
      refine QOps.nil ?_
      refine Run.ret ?_
      refine retQ.of (.inr rfl) rfl (.tmp rfl .nil) (fun w' hw' => ?_)
      exact ⟨_, _, _, rfl, and255, by omega, by omega, hw'.bel, hw'.ent _ (List.mem_of_getElem? (i := 0) rfl)⟩
theorem tmod_in {x n : Int} (hx : 0 ≤ x) (hn : 0 < n) : 0 ≤ x.tmod n ∧ x.tmod n < n := ⟨Int.tmod_nonneg n hx, Int.tmod_lt_of_pos x hn⟩
theorem pick_spec {w : World} {g m c : Nat} {A : Option Addr} {xs : List UInt8} {at_ sd : Int} {n : Int} (hc : Cur w 83 g A m c xs at_ sd) (h0 : 0 ≤ at_) (h1 : at_ ≤ 8000000000000000000)  : Calls Try.prog 63 #[.pointer (some ⟨g, 0, none⟩), .int .i64 n] w (RetC w 83 g (.slice A m c) at_ 2 (fun (x : Int) => .int .i64 x) (fun x => 0 ≤ x ∧ (x < n ∨ n ≤ 1 ∧ x = 0))) := by
  refine calls_of_run (vs := [_, _]) (L := [(0, _), (1, _)]) (n := 20) (F := [g]) (H := [_]) Try.func63 rfl rfl rfl rfl (HOk.lend hc) ?_
  refine Run.seq ?_
  refine Run.quiet (by intro h; cases h) ?_
  refine QOps.st rfl rfl (Yv.assign rfl).yl ?_
  refine QOps.nil ?_
  refine Run.seq ?_
  refine Run.seq ?_
  refine Run.quiet (by intro h; cases h) ?_
  refine QOps.st rfl rfl (Yv.move rfl).yl ?_
  refine QOps.st rfl rfl (Yv.leq rfl rfl).yl ?_
  refine QOps.nil ?_
  refine Run.cond rfl (fun hc1 => ?_) (fun hc1 => ?_)
  · try replace hc1 := of_decide_eq_true hc1
    refine Run.seq ?_
    refine Run.quiet (by intro h; cases h) ?_
    refine QOps.st rfl rfl (Yv.assign rfl).yl ?_
    refine QOps.nil ?_
    refine Run.ret ?_
    refine retQ.of (.inr rfl) rfl (.tmp rfl .nil) (fun w' hw' => ?_)
    exact ⟨0, _, _, rfl, ⟨by omega, .inr ⟨hc1, rfl⟩⟩, by omega, by omega, hw'.bel, hw'.ent _ (List.mem_of_getElem? (i := 0) rfl)⟩
  · try replace hc1 := of_decide_eq_false hc1
    refine Run.skip ?_
    refine Run.seq ?_
    refine Run.ops ?_
    refine SOps.st rfl rfl (Yv.move rfl).yl ?_
    refine SOps.one rfl (One.callC (i := 0) (H' := fun _ _ => [_]) rfl callable91 (.cons rfl (.nil)) rfl (fun w' hw' => next_spec (Cur.lent hc (i := 0) rfl hw') (by omega) (by omega)) (fun _ _ => rfl) (fun x1 at1 sd1 ⟨hxl1, hxh1⟩ ha1 hb1 => ?_))
    refine SOps.st rfl rfl (Yv.assign rfl).yl ?_
    refine SOps.nil ?_
    refine Run.seq ?_
    refine Run.seq ?_
    refine Run.quiet (by intro h; cases h) ?_
    refine QOps.st rfl rfl (Yv.move rfl).yl ?_
    refine QOps.st rfl rfl (Yv.gtr rfl rfl).yl ?_
    refine QOps.nil ?_
    refine Run.cond rfl (fun hc2 => ?_) (fun hc2 => ?_)
    · try replace hc2 := of_decide_eq_true hc2
      refine Run.ops ?_
      refine SOps.st rfl rfl (Yv.move rfl).yl ?_
      refine SOps.st rfl rfl (Yv.mul rfl rfl (by omega)).yl ?_
      refine SOps.st rfl rfl (Yv.move rfl).yl ?_
      refine SOps.one rfl (One.callC (i := 0) (H' := fun _ _ => [_]) rfl callable91 (.cons rfl (.nil)) rfl (fun w' hw' => next_spec (Cur.lent hc (i := 0) rfl hw') (by omega) (by omega)) (fun _ _ => rfl) (fun x2 at2 sd2 ⟨hxl2, hxh2⟩ ha2 hb2 => ?_))
      refine SOps.st rfl rfl (Yv.add rfl rfl (by omega)).yl ?_
      refine SOps.st rfl rfl (Yv.assign rfl).yl ?_
      refine SOps.nil ?_
      refine Run.seq ?_
      refine Run.quiet (by intro h; cases h) ?_
      refine QOps.st rfl rfl (Yv.move rfl).yl ?_
      refine QOps.st rfl rfl (Yv.move rfl).yl ?_
      refine QOps.st rfl rfl (Yv.rem rfl rfl (by omega)).yl ?_
      refine QOps.st rfl rfl (Yv.assign rfl).yl ?_
      refine QOps.nil ?_
      refine Run.ret ?_
      refine retQ.of (.inr rfl) rfl (.tmp rfl .nil) (fun w' hw' => ?_)
      exact ⟨_, _, _, rfl, (by have := tmod_in (x := x1 * 256 + x2) (n := n) (by omega) (by omega); exact ⟨this.1, .inl this.2⟩), by omega, by omega, hw'.bel, hw'.ent _ (List.mem_of_getElem? (i := 0) rfl)⟩
    · try replace hc2 := of_decide_eq_false hc2
      refine Run.skip ?_
      refine Run.seq ?_
      refine Run.quiet (by intro h; cases h) ?_
      refine QOps.st rfl rfl (Yv.move rfl).yl ?_
      refine QOps.st rfl rfl (Yv.move rfl).yl ?_
      refine QOps.st rfl rfl (Yv.rem rfl rfl (by omega)).yl ?_
      refine QOps.st rfl rfl (Yv.assign rfl).yl ?_
      refine QOps.nil ?_
      refine Run.ret ?_
      refine retQ.of (.inr rfl) rfl (.tmp rfl .nil) (fun w' hw' => ?_)
      exact ⟨_, _, _, rfl, (by have := tmod_in (x := x1) (n := n) (by omega) (by omega); exact ⟨this.1, .inl this.2⟩), by omega, by omega, hw'.bel, hw'.ent _ (List.mem_of_getElem? (i := 0) rfl)⟩

theorem one_spec {w : World} {g m c : Nat} {A : Option Addr} {xs : List UInt8} {at_ sd : Int} {n : Int} (hc : Cur w 83 g A m c xs at_ sd) (h0 : 0 ≤ at_) (h1 : at_ ≤ 7000000000000000000)  : Calls Try.prog 62 #[.pointer (some ⟨g, 0, none⟩), .int .i64 n] w (RetC w 83 g (.slice A m c) at_ 2 (fun (x : Bool) => .bool x) (fun _ => True)) := by
  refine calls_of_run (vs := [_, _]) (L := [(0, _), (1, _)]) (n := 9) (F := [g]) (H := [_]) Try.func62 rfl rfl rfl rfl (HOk.lend hc) ?_
  refine Run.seq ?_
  refine Run.quiet (by intro h; cases h) ?_
  refine QOps.st rfl rfl (Yv.assign rfl).yl ?_
  refine QOps.nil ?_
  refine Run.seq ?_
  refine Run.ops ?_
  refine SOps.st rfl rfl (Yv.move rfl).yl ?_
  refine SOps.st rfl rfl (Yv.move rfl).yl ?_
  refine SOps.one rfl (One.callC (i := 0) (H' := fun _ _ => [_]) rfl callable63 (.cons rfl (.cons rfl (.nil))) rfl (fun w' hw' => pick_spec (Cur.lent hc (i := 0) rfl hw') (by omega) (by omega)) (fun _ _ => rfl) (fun x1 at1 sd1 ⟨hxl1, hxh1⟩ ha1 hb1 => ?_))
  refine SOps.st rfl rfl (Yv.eqI rfl rfl).yl ?_
  refine SOps.st rfl rfl (Yv.assign rfl).yl ?_
  refine SOps.nil ?_
  refine Run.ret ?_
  refine retQ.of (.inr rfl) rfl (.tmp rfl .nil) (fun w' hw' => ?_)
  exact ⟨_, _, _, rfl, trivial, by omega, by omega, hw'.bel, hw'.ent _ (List.mem_of_getElem? (i := 0) rfl)⟩

theorem nth_mem {α : Type} [Inhabited α] {l : List α} {k : Nat} (h : k < l.length) : nth l k ∈ l := List.mem_of_getElem? (nth_get h)
theorem among_spec {w : World} {g m c : Nat} {A : Option Addr} {xs : List UInt8} {at_ sd : Int} {A2 : Option Addr} {k c2 : Nat} {l : List Int} (hc : Cur w 83 g A m c xs at_ sd) (h0 : 0 ≤ at_) (h1 : at_ ≤ 7000000000000000000) (hl : Sl w 1 A2 k c2 (l.flatMap intC)) (hk : l.length = k) (hk0 : 0 < k) (hkm : k ≤ 1048576) (hne2 : 0 < k → (adr A2).block ≠ g) : Calls Try.prog 64 #[.pointer (some ⟨g, 0, none⟩), .slice A2 k c2] w (RetC w 83 g (.slice A m c) at_ 2 (fun (x : Int) => .int .i64 x) (fun x => x ∈ l)) := by
  refine calls_of_run (vs := [_, _]) (L := [(0, _), (1, _)]) (n := 12) (F := [g]) (H := [_]) Try.func64 rfl rfl rfl rfl (HOk.lend hc) ?_
  refine Run.seq ?_
  refine Run.quiet (by intro h; cases h) ?_
  refine QOps.st rfl rfl (Yv.assign rfl).yl ?_
  refine QOps.nil ?_
  refine Run.seq ?_
  refine Run.ops ?_
  refine SOps.st rfl rfl (Yv.move rfl).yl ?_
  refine SOps.st rfl rfl (Yv.move rfl).yl ?_
  refine SOps.st rfl rfl (Yv.move rfl).yl ?_
  refine SOps.st rfl rfl (Yv.lenS el43s rfl).yl ?_
  refine SOps.one rfl (One.callC (i := 0) (H' := fun _ _ => [_]) rfl callable63 (.cons rfl (.cons rfl (.nil))) rfl (fun w' hw' => pick_spec (Cur.lent hc (i := 0) rfl hw') (by omega) (by omega)) (fun _ _ => rfl) (fun x1 at1 sd1 ⟨hxl1, hxh1⟩ ha1 hb1 => ?_))
  refine SOps.st rfl rfl (Yv.indexAddr x1.toNat el43 rfl rfl (by omega) (Rd.argN hl (fun h => by simpa using hne2 h)) (by omega)).yl ?_
  refine SOps.st rfl rfl (Yv.loadE lay3 rfl intC_len (Rd.argN hl (fun h => by simpa using hne2 h)) (by omega) rfl).yl ?_
  refine SOps.st rfl rfl (Yv.assign rfl).yl ?_
  refine SOps.nil ?_
  refine Run.ret ?_
  refine retQ.of (.inr rfl) rfl (.tmp rfl .nil) (fun w' hw' => ?_)
  exact ⟨_, _, _, rfl, (nth_mem (by omega)), by omega, by omega, hw'.bel, hw'.ent _ (List.mem_of_getElem? (i := 0) rfl)⟩


theorem place17_spec {w : World} {g m c : Nat} {A : Option Addr} {xs : List UInt8} {at_ sd : Int}  (hc : Cur w 83 g A m c xs at_ sd) (h0 : 0 ≤ at_) (h1 : at_ ≤ 6000000000000000000)  : Calls Try.prog 90 #[.pointer (some ⟨g, 0, none⟩)] w (RetC w 83 g (.slice A m c) at_ 2 (fun (x : Int) => .int .i64 x) (fun _ => True)) := by
  refine calls_of_run (vs := [_]) (L := [(0, _)]) (n := 6) (F := [g]) (H := [_]) Try.func90 rfl rfl rfl rfl (HOk.lend hc) ?_
  refine Run.seq ?_
  refine Run.quiet (by intro h; cases h) ?_
  refine QOps.st rfl rfl (Yv.assign rfl).yl ?_
  refine QOps.nil ?_
  refine Run.seq ?_
  refine Run.ops ?_
  refine SOps.st rfl rfl (Yv.move rfl).yl ?_
  refine SOps.one rfl (One.buildSliceG (pv := [(0, _), (1, _), (2, _), (3, _), (4, _), (5, _)]) (cs := [_, _, _, _, _, _]) (fun l => match l with | [a0_0, a1_0, a2_0, a3_0, a4_0, a5_0] => [a0_0, a1_0, a2_0, a3_0, a4_0, a5_0] | _ => []) rfl el43 (.cons rfl (.cons rfl (.cons rfl (.cons rfl (.cons rfl (.cons rfl (.nil))))))) rfl rfl (by kernel_rfl) rfl rfl (fun b1 => ?_))
  refine SOps.one rfl (One.callC (i := 1) (H' := fun _ _ => [_, _]) rfl callable64 (.cons rfl (.cons rfl (.nil))) rfl (fun w' hw' => among_spec (Cur.lent hc (i := 1) rfl hw') (by omega) (by omega) (l := [0, 5, 10, 40, 100, 600]) ((Rd.row (i := 0) rfl) w' hw') (by simp; try omega) (by first | omega | simp) (by first | omega | simp) (fun hm => HOk.rowNe hw' (i := 1) (j := 0) rfl rfl rfl (by first | exact hm | omega))) (fun _ _ => rfl) (fun x1 at1 sd1 hx1 ha1 hb1 => ?_))
  refine SOps.st rfl rfl (Yv.assign rfl).yl ?_
  refine SOps.nil ?_
  refine Run.ret ?_
  refine retQ.of (.inr rfl) rfl (.tmp rfl .nil) (fun w' hw' => ?_)
  exact ⟨_, _, _, rfl, trivial, by omega, by omega, hw'.bel, hw'.ent _ (List.mem_of_getElem? (i := 1) rfl)⟩

theorem tugJob_spec {w : World} {g m c : Nat} {A : Option Addr} {xs : List UInt8} {at_ sd : Int} {id : Int} (hc : Cur w 83 g A m c xs at_ sd) (h0 : 0 ≤ at_) (h1 : at_ ≤ 5000000000000000000)  : Calls Try.prog 71 #[.pointer (some ⟨g, 0, none⟩), .int .i64 id] w (RetC w 83 g (.slice A m c) at_ 16 (fun (x : Job) => .agg x.enc.toArray) (fun _ => True)) := by
  refine calls_of_run (vs := [_, _]) (L := [(0, _), (1, _)]) (n := 39) (F := [g]) (H := [_]) Try.func71 rfl rfl rfl rfl (HOk.lend hc) ?_
  refine Run.seq ?_
  refine Run.ops ?_
  refine SOps.one rfl (One.alloc rfl zero51 (fun b1 => ?_))
  refine SOps.nil ?_
  refine Run.seq ?_
  refine Run.ops ?_
  refine SOps.st rfl rfl (Yv.move rfl).yl ?_
  refine SOps.st rfl rfl (Yv.move rfl).yl ?_
  refine SOps.one rfl (One.callC (i := 1) (H' := fun _ _ => [_, _]) rfl callable90 (.cons rfl (.nil)) rfl (fun w' hw' => place17_spec (Cur.lent hc (i := 1) rfl hw') (by omega) (by omega)) (fun _ _ => rfl) (fun x1 at1 sd1 _ ha1 hb1 => ?_))
  refine SOps.st rfl rfl (Yv.move rfl).yl ?_
  refine SOps.one rfl (One.callC (i := 1) (H' := fun _ _ => [_, _]) rfl callable90 (.cons rfl (.nil)) rfl (fun w' hw' => place17_spec (Cur.lent hc (i := 1) rfl hw') (by omega) (by omega)) (fun _ _ => rfl) (fun x2 at2 sd2 _ ha2 hb2 => ?_))
  refine SOps.st rfl rfl (Yv.move rfl).yl ?_
  refine SOps.one rfl (One.callC (i := 1) (H' := fun _ _ => [_, _]) rfl callable63 (.cons rfl (.cons rfl (.nil))) rfl (fun w' hw' => pick_spec (Cur.lent hc (i := 1) rfl hw') (by omega) (by omega)) (fun _ _ => rfl) (fun x3 at3 sd3 ⟨hxl3, hxh3⟩ ha3 hb3 => ?_))
  refine SOps.st rfl rfl (Yv.add rfl rfl (by omega)).yl ?_
  refine SOps.st rfl rfl (Yv.move rfl).yl ?_
  refine SOps.one rfl (One.buildSliceG (pv := [(0, _), (1, _), (2, _), (3, _), (4, _)]) (cs := [_, _, _, _, _]) (fun l => match l with | [a0_0, a1_0, a2_0, a3_0, a4_0] => [a0_0, a1_0, a2_0, a3_0, a4_0] | _ => []) rfl el43 (.cons rfl (.cons rfl (.cons rfl (.cons rfl (.cons rfl (.nil)))))) rfl rfl (by kernel_rfl) rfl rfl (fun b2 => ?_))
  refine SOps.one rfl (One.callC (i := 2) (H' := fun _ _ => [_, _, _]) rfl callable64 (.cons rfl (.cons rfl (.nil))) rfl (fun w' hw' => among_spec (Cur.lent hc (i := 2) rfl hw') (by omega) (by omega) (l := [0, 0, 5, 30, 500]) ((Rd.row (i := 0) rfl) w' hw') (by simp; try omega) (by first | omega | simp) (by first | omega | simp) (fun hm => HOk.rowNe hw' (i := 2) (j := 0) rfl rfl rfl (by first | exact hm | omega))) (fun _ _ => rfl) (fun x4 at4 sd4 hx4 ha4 hb4 => ?_))
  refine SOps.st rfl rfl (Yv.buildG (pv := [(0, _), (1, _), (2, _), (3, _), (4, _)]) (cs := [_, _, _, _, _]) (fun l => match l with | [a0_0, a1_0, a2_0, a3_0, a4_0] => [a0_0, a1_0, a2_0, a3_0, a4_0] | _ => []) (.cons rfl (.cons rfl (.cons rfl (.cons rfl (.cons rfl (.nil)))))) rfl rfl (by kernel_rfl)).yl ?_
  refine SOps.one rfl (One.alloc rfl zero51 (fun b3 => ?_))
  refine SOps.one rfl (One.store (i := 0) (off := 0) (vs := [_, _, _, _, _]) (cs' := [_, _, _, _, _]) (H' := [_, _, _, _]) lay51 rfl rfl rfl rfl rfl rfl rfl rfl rfl rfl ?_)
  refine SOps.nil ?_
  refine Run.seqMid (S := Int × Int × Int × Int × Int) (fun s => match s with | (f, p, r, a3, s3) => at_ ≤ a3 ∧ a3 ≤ at_ + 12) (fun s => match s with | (f, p, r, a3, s3) => [(4, .pointer (some ⟨b1, 0, none⟩)), (5, .pointer (some ⟨b3, 0, none⟩))]) (fun s => match s with | (f, p, r, a3, s3) => [.blk b3 51 [.int .i64 id, .int .i64 f, .int .i64 x2, .int .i64 p, .int .i64 r], .blk b1 51 [.int .i64 0, .int .i64 0, .int .i64 0, .int .i64 0, .int .i64 0], .blk g 83 [.slice A m c, .int .i64 a3, .int .u64 s3]]) ?_ ?_
  ·
    refine Run.seq ?_
    refine Run.ops ?_
    refine SOps.st rfl rfl (Yv.move rfl).yl ?_
    refine SOps.one rfl (One.callC (i := 3) (H' := fun _ _ => [_, _, _, _]) rfl callable63 (.cons rfl (.cons rfl (.nil))) rfl (fun w' hw' => pick_spec (Cur.lent hc (i := 3) rfl hw') (by omega) (by omega)) (fun _ _ => rfl) (fun x5 at5 sd5 ⟨hxl5, hxh5⟩ ha5 hb5 => ?_))
    refine SOps.nil ?_
    refine Run.block ?_
    refine Run.seq ?_
    refine Run.quiet (by intro h; cases h) ?_
    refine QOps.st rfl rfl (Yv.eqI rfl rfl).yl ?_
    refine QOps.st rfl rfl (Yv.assign rfl).yl ?_
    refine QOps.nil ?_
    refine Run.cond rfl (fun hc1 => ?_) (fun hc1 => ?_)
    · try replace hc1 := of_decide_eq_true hc1
      refine Run.ops ?_
      refine SOps.st rfl rfl (Yv.move rfl).yl ?_
      refine SOps.one rfl (One.buildSliceG (pv := [(0, _), (1, _)]) (cs := [_, _]) (fun l => match l with | [a0_0, a1_0] => [a0_0, a1_0] | _ => []) rfl el43 (.cons rfl (.cons rfl (.nil))) rfl rfl (by kernel_rfl) rfl rfl (fun b4 => ?_))
      refine SOps.one rfl (One.callC (i := 4) (H' := fun _ _ => [_, _, _, _, _]) rfl callable64 (.cons rfl (.cons rfl (.nil))) rfl (fun w' hw' => among_spec (Cur.lent hc (i := 4) rfl hw') (by omega) (by omega) (l := [(-1), 601]) ((Rd.row (i := 0) rfl) w' hw') (by simp; try omega) (by first | omega | simp) (by first | omega | simp) (fun hm => HOk.rowNe hw' (i := 4) (j := 0) rfl rfl rfl (by first | exact hm | omega))) (fun _ _ => rfl) (fun x6 at6 sd6 hx6 ha6 hb6 => ?_))
      refine SOps.st rfl rfl (Yv.fieldAddr fld51_1 rfl).yl ?_
      refine SOps.one rfl (One.store (i := 1) (off := 1) (vs := [_]) (cs' := [_, _, _, _, _]) (H' := [_, _, _, _, _]) lay3 rfl rfl rfl rfl rfl rfl rfl rfl rfl rfl ?_)
      refine SOps.nil ?_
      refine ⟨(_, _, _, _, _), ?_, (SubE.cons rfl (SubE.cons rfl (SubE.nil _))), (List.Sublist.cons _ (List.Sublist.cons_cons _ (List.Sublist.cons _ (List.Sublist.refl _))))⟩
      · exact ⟨by omega, by omega⟩
    · try replace hc1 := of_decide_eq_false hc1
      refine Run.seq ?_
      refine Run.quiet (by intro h; cases h) ?_
      refine QOps.st rfl rfl (Yv.eqI rfl rfl).yl ?_
      refine QOps.st rfl rfl (Yv.assign rfl).yl ?_
      refine QOps.nil ?_
      refine Run.cond rfl (fun hc2 => ?_) (fun hc2 => ?_)
      · try replace hc2 := of_decide_eq_true hc2
        refine Run.ops ?_
        refine SOps.st rfl rfl (Yv.move rfl).yl ?_
        refine SOps.one rfl (One.buildSliceG (pv := [(0, _), (1, _)]) (cs := [_, _]) (fun l => match l with | [a0_0, a1_0] => [a0_0, a1_0] | _ => []) rfl el43 (.cons rfl (.cons rfl (.nil))) rfl rfl (by kernel_rfl) rfl rfl (fun b5 => ?_))
        refine SOps.one rfl (One.callC (i := 4) (H' := fun _ _ => [_, _, _, _, _]) rfl callable64 (.cons rfl (.cons rfl (.nil))) rfl (fun w' hw' => among_spec (Cur.lent hc (i := 4) rfl hw') (by omega) (by omega) (l := [(-1), 501]) ((Rd.row (i := 0) rfl) w' hw') (by simp; try omega) (by first | omega | simp) (by first | omega | simp) (fun hm => HOk.rowNe hw' (i := 4) (j := 0) rfl rfl rfl (by first | exact hm | omega))) (fun _ _ => rfl) (fun x7 at7 sd7 hx7 ha7 hb7 => ?_))
        refine SOps.st rfl rfl (Yv.fieldAddr fld51_4 rfl).yl ?_
        refine SOps.one rfl (One.store (i := 1) (off := 4) (vs := [_]) (cs' := [_, _, _, _, _]) (H' := [_, _, _, _, _]) lay3 rfl rfl rfl rfl rfl rfl rfl rfl rfl rfl ?_)
        refine SOps.nil ?_
        refine ⟨(_, _, _, _, _), ?_, (SubE.cons rfl (SubE.cons rfl (SubE.nil _))), (List.Sublist.cons _ (List.Sublist.cons_cons _ (List.Sublist.cons _ (List.Sublist.refl _))))⟩
        · exact ⟨by omega, by omega⟩
      · try replace hc2 := of_decide_eq_false hc2
        refine Run.seq ?_
        refine Run.quiet (by intro h; cases h) ?_
        refine QOps.st rfl rfl (Yv.eqI rfl rfl).yl ?_
        refine QOps.st rfl rfl (Yv.assign rfl).yl ?_
        refine QOps.nil ?_
        refine Run.cond rfl (fun hc3 => ?_) (fun hc3 => ?_)
        · try replace hc3 := of_decide_eq_true hc3
          refine Run.ops ?_
          refine SOps.st rfl rfl (Yv.move rfl).yl ?_
          refine SOps.one rfl (One.buildSliceG (pv := [(0, _), (1, _), (2, _)]) (cs := [_, _, _]) (fun l => match l with | [a0_0, a1_0, a2_0] => [a0_0, a1_0, a2_0] | _ => []) rfl el43 (.cons rfl (.cons rfl (.cons rfl (.nil)))) rfl rfl (by kernel_rfl) rfl rfl (fun b6 => ?_))
          refine SOps.one rfl (One.callC (i := 4) (H' := fun _ _ => [_, _, _, _, _]) rfl callable64 (.cons rfl (.cons rfl (.nil))) rfl (fun w' hw' => among_spec (Cur.lent hc (i := 4) rfl hw') (by omega) (by omega) (l := [0, 9, 10]) ((Rd.row (i := 0) rfl) w' hw') (by simp; try omega) (by first | omega | simp) (by first | omega | simp) (fun hm => HOk.rowNe hw' (i := 4) (j := 0) rfl rfl rfl (by first | exact hm | omega))) (fun _ _ => rfl) (fun x8 at8 sd8 hx8 ha8 hb8 => ?_))
          refine SOps.st rfl rfl (Yv.fieldAddr fld51_3 rfl).yl ?_
          refine SOps.one rfl (One.store (i := 1) (off := 3) (vs := [_]) (cs' := [_, _, _, _, _]) (H' := [_, _, _, _, _]) lay3 rfl rfl rfl rfl rfl rfl rfl rfl rfl rfl ?_)
          refine SOps.nil ?_
          refine ⟨(_, _, _, _, _), ?_, (SubE.cons rfl (SubE.cons rfl (SubE.nil _))), (List.Sublist.cons _ (List.Sublist.cons_cons _ (List.Sublist.cons _ (List.Sublist.refl _))))⟩
          · exact ⟨by omega, by omega⟩
        · try replace hc3 := of_decide_eq_false hc3
          refine Run.skip ?_
          refine ⟨(_, _, _, _, _), ?_, (SubE.cons rfl (SubE.cons rfl (SubE.nil _))), (List.Sublist.cons_cons _ (List.Sublist.cons _ (List.Sublist.refl _)))⟩
          · exact ⟨by omega, by omega⟩
  · rintro ⟨f, p, r, a3, s3⟩ ⟨ha3l, ha3h⟩
    show Run _ _ _ _ _ [(4, .pointer (some ⟨b1, 0, none⟩)), (5, .pointer (some ⟨b3, 0, none⟩))] [.blk b3 51 [.int .i64 id, .int .i64 f, .int .i64 x2, .int .i64 p, .int .i64 r], .blk b1 51 [.int .i64 0, .int .i64 0, .int .i64 0, .int .i64 0, .int .i64 0], .blk g 83 [.slice A m c, .int .i64 a3, .int .u64 s3]] _
    refine Run.seq ?_
    refine Run.ops ?_
    refine SOps.st rfl rfl (Yv.loadBs (i := 0) lay51 rfl rfl rfl rfl).yl ?_
    refine SOps.one rfl (One.store (i := 1) (off := 0) (vs := [_, _, _, _, _]) (cs' := [_, _, _, _, _]) (H' := [_, _, _]) lay51 rfl rfl rfl rfl rfl rfl rfl rfl rfl rfl ?_)
    refine SOps.nil ?_
    refine Run.ret ?_
    refine retQ.of (.inr rfl) rfl (.cells (i := 1) rfl lay51 rfl rfl .nil) (fun w' hw' => ?_)
    exact ⟨⟨id, f, x2, p, r⟩, _, _, rfl, trivial, by omega, by omega, hw'.bel, hw'.ent _ (List.mem_of_getElem? (i := 2) rfl)⟩

theorem tugs_spec {w : World} {g m c : Nat} {A : Option Addr} {xs : List UInt8} {at_ sd : Int} (hc : Cur w 83 g A m c xs at_ sd) (h0 : 0 ≤ at_) (h1 : at_ ≤ 4000000000000000000) :
    Calls Try.prog 59 #[.pointer (some ⟨g, 0, none⟩)] w (RetCR w 83 g (.slice A m c) at_ 100 49 3 Tug.enc (fun (l : List Tug) => l) (fun _ v => v) (fun l => l.length ≤ 20)) := by
  refine calls_of_run (vs := [_]) (L := [(0, _)]) (n := 80) (F := [g]) (H := [_]) Try.func59 rfl rfl rfl rfl (HOk.lend hc) ?_
  refine Run.seq ?_
  refine Run.quiet (by intro h; cases h) ?_
  refine QOps.st rfl rfl (Yv.assign rfl).yl ?_
  refine QOps.nil ?_
  refine Run.seq ?_
  refine Run.ops ?_
  refine SOps.one rfl (One.buildSliceG (pv := []) (cs := []) (fun _ => []) rfl el41 .nil rfl rfl (by kernel_rfl) rfl rfl (fun b1 => ?_))
  refine SOps.st rfl rfl (Yv.assign rfl).yl ?_
  refine SOps.nil ?_
  refine Run.seq ?_
  refine Run.quiet (by intro h; cases h) ?_
  refine QOps.st rfl rfl (Yv.assign rfl).yl ?_
  refine QOps.nil ?_
  refine Run.seq ?_
  refine Run.seq ?_
  refine Run.ops ?_
  refine SOps.st rfl rfl (Yv.move rfl).yl ?_
  refine SOps.one rfl (One.callC (i := 1) (H' := fun _ _ => [_, _]) rfl callable63 (.cons rfl (.cons rfl (.nil))) rfl (fun w' hw' => pick_spec (Cur.lent hc (i := 1) rfl hw') (by omega) (by omega)) (fun _ _ => rfl) (fun x1 at1 sd1 ⟨hxl1, hxh1⟩ ha1 hb1 => ?_))
  refine SOps.st rfl rfl (Yv.add rfl rfl (by omega)).yl ?_
  refine SOps.st rfl rfl (Yv.assign rfl).yl ?_
  refine SOps.nil ?_
  refine Run.block ?_
  refine Run.loop (S := Int × Int × List Tug × Option Addr × Nat × Int × Int) (fun s => match s with | (z, i, o, A2, c2, a2, s2) => 0 ≤ z ∧ z ≤ 4 ∧ (o.length : Int) + z = 1 + x1 ∧ at_ ≤ a2 ∧ a2 ≤ at_ + 2 + 8 * (4 - z) ∧ 0 ≤ i ∧ i ≤ 3 * (4 - z)) (fun s => match s with | (z, i, o, A2, c2, a2, s2) => [(0, .pointer (some ⟨g, 0, none⟩)), (3, .slice A2 o.length c2), (4, .int .i64 i), (5, .int .i64 z)]) (fun s => match s with | (z, i, o, A2, c2, a2, s2) => [.row A2 c2 49 3 o.length (o.flatMap Tug.enc), .blk g 83 [.slice A m c, .int .i64 a2, .int .u64 s2]]) (fun s => match s with | (z, i, o, A2, c2, a2, s2) => z.toNat) (_, 0, [], some ⟨b1, 0, none⟩, 0, _, _) ?_ (SubE.cons rfl (SubE.cons rfl (SubE.cons rfl (SubE.cons rfl (SubE.nil _))))) (List.Sublist.refl _) ?_
  · exact ⟨by omega, by omega, by simp, by omega, by omega, by omega, by omega⟩
  · rintro ⟨z, i, o, A2, c2, a2, s2⟩ ⟨hz0, hz4, hol, ha2l, ha2h, hi0, hi1⟩
    show Run _ _ _ _ _ [(0, .pointer (some ⟨g, 0, none⟩)), (3, .slice A2 o.length c2), (4, .int .i64 i), (5, .int .i64 z)] [.row A2 c2 49 3 o.length (o.flatMap Tug.enc), .blk g 83 [.slice A m c, .int .i64 a2, .int .u64 s2]] _
    refine Run.seq ?_
    refine Run.seq ?_
    refine Run.quiet (by intro h; cases h) ?_
    refine QOps.st rfl rfl (Yv.move rfl).yl ?_
    refine QOps.st rfl rfl (Yv.gtr rfl rfl).yl ?_
    refine QOps.nil ?_
    refine Run.cond rfl (fun hc1 => ?_) (fun hc1 => ?_)
    · try replace hc1 := of_decide_eq_true hc1
      refine Run.skip ?_
      refine Run.seq ?_
      refine Run.block ?_
      refine Run.seq ?_
      refine Run.ops ?_
      refine SOps.st rfl rfl (Yv.move rfl).yl ?_
      refine SOps.st rfl rfl (Yv.add rfl rfl (by omega)).yl ?_
      refine SOps.st rfl rfl (Yv.move rfl).yl ?_
      refine SOps.one rfl (One.callC (i := 1) (H' := fun _ _ => [_, _]) rfl callable63 (.cons rfl (.cons rfl (.nil))) rfl (fun w' hw' => pick_spec (Cur.lent hc (i := 1) rfl hw') (by omega) (by omega)) (fun _ _ => rfl) (fun x2 at2 sd2 ⟨hxl2, hxh2⟩ ha2 hb2 => ?_))
      refine SOps.st rfl rfl (Yv.add rfl rfl (by omega)).yl ?_
      refine SOps.st rfl rfl (Yv.assign rfl).yl ?_
      refine SOps.nil ?_
      refine Run.ops ?_
      refine SOps.st rfl rfl (Yv.move rfl).yl ?_
      refine SOps.st rfl rfl (Yv.move rfl).yl ?_
      refine SOps.st rfl rfl (Yv.move rfl).yl ?_
      refine SOps.one rfl (One.callC (i := 1) (H' := fun _ _ => [_, _]) rfl callable90 (.cons rfl (.nil)) rfl (fun w' hw' => place17_spec (Cur.lent hc (i := 1) rfl hw') (by omega) (by omega)) (fun _ _ => rfl) (fun x3 at3 sd3 _ ha3 hb3 => ?_))
      refine SOps.st rfl rfl (Yv.move rfl).yl ?_
      refine SOps.one rfl (One.callC (i := 1) (H' := fun _ _ => [_, _]) rfl callable63 (.cons rfl (.cons rfl (.nil))) rfl (fun w' hw' => pick_spec (Cur.lent hc (i := 1) rfl hw') (by omega) (by omega)) (fun _ _ => rfl) (fun x4 at4 sd4 ⟨hxl4, hxh4⟩ ha4 hb4 => ?_))
      refine SOps.st rfl rfl (Yv.add rfl rfl (by omega)).yl ?_
      refine SOps.st rfl rfl (Yv.buildG (pv := [(0, _), (1, _), (2, _)]) (cs := [_, _, _]) (fun l => match l with | [a0_0, a1_0, a2_0] => [a0_0, a1_0, a2_0] | _ => []) (.cons rfl (.cons rfl (.cons rfl (.nil)))) rfl rfl (by kernel_rfl)).yl ?_
      refine SOps.one rfl (One.buildSliceG (pv := [(0, _)]) (cs := [_, _, _]) (fun l => match l with | [.agg ⟨[a0_0, a0_1, a0_2]⟩] => [a0_0, a0_1, a0_2] | _ => []) rfl el41 (.cons rfl (.nil)) rfl rfl (by kernel_rfl) rfl rfl (fun b2 => ?_))
      refine SOps.one rfl (One.append (enc := Tug.enc) (l := o) (l2 := [⟨(i + 1 + x2), x3, (1 + x4)⟩]) (m' := (o ++ [(⟨(i + 1 + x2), x3, (1 + x4)⟩ : Tug)]).length) (i := 1) (H' := fun A c => [_, _, _]) rfl el41 zero49 rfl (by decide) rfl rfl rfl (Rd.row (i := 0) rfl) (fun _ => rfl) (by simp) (by simp; omega) (by simp; omega) (fun _ _ => rfl) (fun A1 c1 => ?_))
      refine SOps.st rfl rfl (Yv.assign rfl).yl ?_
      refine SOps.nil ?_
      refine Run.quiet (by intro h; cases h) ?_
      refine QOps.st rfl rfl (Yv.move rfl).yl ?_
      refine QOps.st rfl rfl (Yv.sub rfl rfl (by omega)).yl ?_
      refine QOps.st rfl rfl (Yv.assign rfl).yl ?_
      refine QOps.nil ?_
      refine ⟨(z - 1, _, _, _, _, _, _), ?_, ?_, (SubE.cons rfl (SubE.cons rfl (SubE.cons rfl (SubE.cons rfl (SubE.nil _))))), (List.Sublist.cons _ (List.Sublist.refl _))⟩
      · refine ⟨by omega, by omega, ?_, by omega, by omega, by omega, by omega⟩ <;> first | omega | (simp; done) | (simp; omega)
      · first | omega | (dsimp only; omega)
    · try replace hc1 := of_decide_eq_false hc1
      refine Run.exit ?_
      refine Run.seq ?_
      refine Run.ops ?_
      refine SOps.st rfl rfl (Yv.move rfl).yl ?_
      refine SOps.st rfl rfl (Yv.move rfl).yl ?_
      refine SOps.st rfl rfl (Yv.lenS el41s rfl).yl ?_
      refine SOps.one rfl (One.callC (i := 1) (H' := fun _ _ => [_, _]) rfl callable63 (.cons rfl (.cons rfl (.nil))) rfl (fun w' hw' => pick_spec (Cur.lent hc (i := 1) rfl hw') (by omega) (by omega)) (fun _ _ => rfl) (fun x5 at5 sd5 ⟨hxl5, hxh5⟩ ha5 hb5 => ?_))
      refine SOps.st rfl rfl (Yv.assign rfl).yl ?_
      refine SOps.nil ?_
      refine Run.seq ?_
      refine Run.ops ?_
      refine SOps.st rfl rfl (Yv.move rfl).yl ?_
      refine SOps.st rfl rfl (Yv.move rfl).yl ?_
      refine SOps.st rfl rfl (Yv.indexAddr x5.toNat el41 rfl rfl (by omega) (Rd.row (i := 0) rfl) (by omega)).yl ?_
      refine SOps.st rfl rfl (Yv.loadEs lay49 rfl Tug.len (Rd.row (i := 0) rfl) (by omega) (by decide)).yl ?_
      refine SOps.one rfl (One.alloc rfl zero49 (fun b3 => ?_))
      refine SOps.one rfl (One.store (i := 0) (off := 0) (vs := [_, _, _]) (cs' := [_, _, _]) (H' := [_, _, _]) lay49 rfl rfl rfl rfl rfl rfl rfl rfl rfl rfl ?_)
      refine SOps.nil ?_
      refine Run.seqMid (S := (Int × Int × Int) × List Tug × (Option Addr × Nat) × Int × Int) (fun s => match s with | ((u, v, z), q, (A3, c3), a3, s3) => at_ ≤ a3 ∧ a3 ≤ at_ + 60 ∧ x5.toNat < q.length ∧ q.length ≤ 20) (fun s => match s with | ((u, v, z), q, (A3, c3), a3, s3) => [(3, .slice A3 q.length c3), (6, .int .i64 x5), (7, .pointer (some ⟨b3, 0, none⟩))]) (fun s => match s with | ((u, v, z), q, (A3, c3), a3, s3) => [.blk b3 49 [.int .i64 u, .int .i64 v, .int .i64 z], .row A3 c3 49 3 q.length (q.flatMap Tug.enc), .blk g 83 [.slice A m c, .int .i64 a3, .int .u64 s3]]) ?_ ?_
      ·
        refine Run.seq ?_
        refine Run.ops ?_
        refine SOps.st rfl rfl (Yv.move rfl).yl ?_
        refine SOps.one rfl (One.callC (i := 2) (H' := fun _ _ => [_, _, _]) rfl callable63 (.cons rfl (.cons rfl (.nil))) rfl (fun w' hw' => pick_spec (Cur.lent hc (i := 2) rfl hw') (by omega) (by omega)) (fun _ _ => rfl) (fun x6 at6 sd6 ⟨hxl6, hxh6⟩ ha6 hb6 => ?_))
        refine SOps.nil ?_
        refine Run.block ?_
        refine Run.seq ?_
        refine Run.quiet (by intro h; cases h) ?_
        refine QOps.st rfl rfl (Yv.eqI rfl rfl).yl ?_
        refine QOps.st rfl rfl (Yv.assign rfl).yl ?_
        refine QOps.nil ?_
        refine Run.cond rfl (fun hc2 => ?_) (fun hc2 => ?_)
        · try replace hc2 := of_decide_eq_true hc2
          refine Run.ops ?_
          refine SOps.st rfl rfl (Yv.move rfl).yl ?_
          refine SOps.one rfl (One.buildSliceG (pv := [(0, _), (1, _), (2, _)]) (cs := [_, _, _]) (fun l => match l with | [a0_0, a1_0, a2_0] => [a0_0, a1_0, a2_0] | _ => []) rfl el43 (.cons rfl (.cons rfl (.cons rfl (.nil)))) rfl rfl (by kernel_rfl) rfl rfl (fun b4 => ?_))
          refine SOps.one rfl (One.callC (i := 3) (H' := fun _ _ => [_, _, _, _]) rfl callable64 (.cons rfl (.cons rfl (.nil))) rfl (fun w' hw' => among_spec (Cur.lent hc (i := 3) rfl hw') (by omega) (by omega) (l := [0, 99, 100]) ((Rd.row (i := 0) rfl) w' hw') (by simp; try omega) (by first | omega | simp) (by first | omega | simp) (fun hm => HOk.rowNe hw' (i := 3) (j := 0) rfl rfl rfl (by first | exact hm | omega))) (fun _ _ => rfl) (fun x7 at7 sd7 hx7 ha7 hb7 => ?_))
          refine SOps.st rfl rfl (Yv.fieldAddr fld49_0 rfl).yl ?_
          refine SOps.one rfl (One.store (i := 1) (off := 0) (vs := [_]) (cs' := [_, _, _]) (H' := [_, _, _, _]) lay3 rfl rfl rfl rfl rfl rfl rfl rfl rfl rfl ?_)
          refine SOps.nil ?_
          refine ⟨((_, _, _), _, (_, _), _, _), ?_, (SubE.cons rfl (SubE.cons rfl (SubE.cons rfl (SubE.nil _)))), (List.Sublist.cons _ (List.Sublist.refl _))⟩
          · exact ⟨by omega, by omega, by omega, by omega⟩
        · try replace hc2 := of_decide_eq_false hc2
          refine Run.seq ?_
          refine Run.quiet (by intro h; cases h) ?_
          refine QOps.st rfl rfl (Yv.eqI rfl rfl).yl ?_
          refine QOps.st rfl rfl (Yv.assign rfl).yl ?_
          refine QOps.nil ?_
          refine Run.cond rfl (fun hc3 => ?_) (fun hc3 => ?_)
          · try replace hc3 := of_decide_eq_true hc3
            refine Run.ops ?_
            refine SOps.st rfl rfl (Yv.move rfl).yl ?_
            refine SOps.one rfl (One.buildSliceG (pv := [(0, _), (1, _)]) (cs := [_, _]) (fun l => match l with | [a0_0, a1_0] => [a0_0, a1_0] | _ => []) rfl el43 (.cons rfl (.cons rfl (.nil))) rfl rfl (by kernel_rfl) rfl rfl (fun b5 => ?_))
            refine SOps.one rfl (One.callC (i := 3) (H' := fun _ _ => [_, _, _, _]) rfl callable64 (.cons rfl (.cons rfl (.nil))) rfl (fun w' hw' => among_spec (Cur.lent hc (i := 3) rfl hw') (by omega) (by omega) (l := [(-1), 601]) ((Rd.row (i := 0) rfl) w' hw') (by simp; try omega) (by first | omega | simp) (by first | omega | simp) (fun hm => HOk.rowNe hw' (i := 3) (j := 0) rfl rfl rfl (by first | exact hm | omega))) (fun _ _ => rfl) (fun x8 at8 sd8 hx8 ha8 hb8 => ?_))
            refine SOps.st rfl rfl (Yv.fieldAddr fld49_1 rfl).yl ?_
            refine SOps.one rfl (One.store (i := 1) (off := 1) (vs := [_]) (cs' := [_, _, _]) (H' := [_, _, _, _]) lay3 rfl rfl rfl rfl rfl rfl rfl rfl rfl rfl ?_)
            refine SOps.nil ?_
            refine ⟨((_, _, _), _, (_, _), _, _), ?_, (SubE.cons rfl (SubE.cons rfl (SubE.cons rfl (SubE.nil _)))), (List.Sublist.cons _ (List.Sublist.refl _))⟩
            · exact ⟨by omega, by omega, by omega, by omega⟩
          · try replace hc3 := of_decide_eq_false hc3
            refine Run.seq ?_
            refine Run.quiet (by intro h; cases h) ?_
            refine QOps.st rfl rfl (Yv.eqI rfl rfl).yl ?_
            refine QOps.st rfl rfl (Yv.assign rfl).yl ?_
            refine QOps.nil ?_
            refine Run.cond rfl (fun hc4 => ?_) (fun hc4 => ?_)
            · try replace hc4 := of_decide_eq_true hc4
              refine Run.ops ?_
              refine SOps.st rfl rfl (Yv.move rfl).yl ?_
              refine SOps.one rfl (One.buildSliceG (pv := [(0, _), (1, _)]) (cs := [_, _]) (fun l => match l with | [a0_0, a1_0] => [a0_0, a1_0] | _ => []) rfl el43 (.cons rfl (.cons rfl (.nil))) rfl rfl (by kernel_rfl) rfl rfl (fun b6 => ?_))
              refine SOps.one rfl (One.callC (i := 3) (H' := fun _ _ => [_, _, _, _]) rfl callable64 (.cons rfl (.cons rfl (.nil))) rfl (fun w' hw' => among_spec (Cur.lent hc (i := 3) rfl hw') (by omega) (by omega) (l := [0, 10]) ((Rd.row (i := 0) rfl) w' hw') (by simp; try omega) (by first | omega | simp) (by first | omega | simp) (fun hm => HOk.rowNe hw' (i := 3) (j := 0) rfl rfl rfl (by first | exact hm | omega))) (fun _ _ => rfl) (fun x9 at9 sd9 hx9 ha9 hb9 => ?_))
              refine SOps.st rfl rfl (Yv.fieldAddr fld49_2 rfl).yl ?_
              refine SOps.one rfl (One.store (i := 1) (off := 2) (vs := [_]) (cs' := [_, _, _]) (H' := [_, _, _, _]) lay3 rfl rfl rfl rfl rfl rfl rfl rfl rfl rfl ?_)
              refine SOps.nil ?_
              refine ⟨((_, _, _), _, (_, _), _, _), ?_, (SubE.cons rfl (SubE.cons rfl (SubE.cons rfl (SubE.nil _)))), (List.Sublist.cons _ (List.Sublist.refl _))⟩
              · exact ⟨by omega, by omega, by omega, by omega⟩
            · try replace hc4 := of_decide_eq_false hc4
              refine Run.seq ?_
              refine Run.quiet (by intro h; cases h) ?_
              refine QOps.st rfl rfl (Yv.eqI rfl rfl).yl ?_
              refine QOps.st rfl rfl (Yv.assign rfl).yl ?_
              refine QOps.nil ?_
              refine Run.cond rfl (fun hc5 => ?_) (fun hc5 => ?_)
              · try replace hc5 := of_decide_eq_true hc5
                refine Run.block ?_
                refine Run.loop (S := Int × List Tug × Option Addr × Nat) (fun s => match s with | (i, q, A3, c3) => x5.toNat < q.length ∧ q.length ≤ 5 ∧ 0 ≤ i ∧ i ≤ 100 + (q.length : Int)) (fun s => match s with | (i, q, A3, c3) => [(3, .slice A3 q.length c3), (4, .int .i64 i), (6, .int .i64 x5), (7, .pointer (some ⟨b3, 0, none⟩))]) (fun s => match s with | (i, q, A3, c3) => [.blk b3 49 (Tug.enc (nth o (x5.toNat))), .row A3 c3 49 3 q.length (q.flatMap Tug.enc), .blk g 83 [.slice A m c, .int .i64 at6, .int .u64 sd6]]) (fun s => match s with | (i, q, A3, c3) => 5 - q.length) (_, o, A2, c2) ?_ (SubE.cons rfl (SubE.cons rfl (SubE.cons rfl (SubE.cons rfl (SubE.nil _))))) (List.Sublist.refl _) ?_
                · exact ⟨by omega, by omega, by omega, by omega⟩
                · rintro ⟨i, q, A3, c3⟩ ⟨hxo, ho5, hi0, hi1⟩
                  show Run _ _ _ _ _ [(3, .slice A3 q.length c3), (4, .int .i64 i), (6, .int .i64 x5), (7, .pointer (some ⟨b3, 0, none⟩))] [.blk b3 49 (Tug.enc (nth o (x5.toNat))), .row A3 c3 49 3 q.length (q.flatMap Tug.enc), .blk g 83 [.slice A m c, .int .i64 at6, .int .u64 sd6]] _
                  refine Run.seq ?_
                  refine Run.seq ?_
                  refine Run.quiet (by intro h; cases h) ?_
                  refine QOps.st rfl rfl (Yv.move rfl).yl ?_
                  refine QOps.st rfl rfl (Yv.lenS el41s rfl).yl ?_
                  refine QOps.st rfl rfl (Yv.lss rfl rfl).yl ?_
                  refine QOps.nil ?_
                  refine Run.cond rfl (fun hc6 => ?_) (fun hc6 => ?_)
                  · try replace hc6 := of_decide_eq_true hc6
                    refine Run.skip ?_
                    refine Run.block ?_
                    refine Run.seq ?_
                    refine Run.quiet (by intro h; cases h) ?_
                    refine QOps.st rfl rfl (Yv.move rfl).yl ?_
                    refine QOps.st rfl rfl (Yv.add rfl rfl (by omega)).yl ?_
                    refine QOps.st rfl rfl (Yv.assign rfl).yl ?_
                    refine QOps.nil ?_
                    refine Run.ops ?_
                    refine SOps.st rfl rfl (Yv.move rfl).yl ?_
                    refine SOps.st rfl rfl (Yv.move rfl).yl ?_
                    refine SOps.st rfl rfl (Yv.buildG (pv := [(0, _), (2, _)]) (cs := [_, _, _]) (fun l => match l with | [a0_0, a1_0] => [a0_0, .int .i64 0, a1_0] | _ => []) (.cons rfl (.cons rfl (.nil))) rfl rfl (by kernel_rfl)).yl ?_
                    refine SOps.one rfl (One.buildSliceG (pv := [(0, _)]) (cs := [_, _, _]) (fun l => match l with | [.agg ⟨[a0_0, a0_1, a0_2]⟩] => [a0_0, a0_1, a0_2] | _ => []) rfl el41 (.cons rfl (.nil)) rfl rfl (by kernel_rfl) rfl rfl (fun b7 => ?_))
                    refine SOps.one rfl (One.append (enc := Tug.enc) (l := q) (l2 := [⟨(i + 1), 0, 1⟩]) (m' := (q ++ [(⟨(i + 1), 0, 1⟩ : Tug)]).length) (i := 2) (H' := fun A c => [_, _, _, _]) rfl el41 zero49 rfl (by decide) rfl rfl rfl (Rd.row (i := 0) rfl) (fun _ => rfl) (by simp) (by simp; omega) (by simp; omega) (fun _ _ => rfl) (fun A2 c2 => ?_))
                    refine SOps.st rfl rfl (Yv.assign rfl).yl ?_
                    refine SOps.nil ?_
                    refine ⟨(_, _, _, _), ?_, ?_, (SubE.cons rfl (SubE.cons rfl (SubE.cons rfl (SubE.cons rfl (SubE.nil _))))), (List.Sublist.cons _ (List.Sublist.refl _))⟩
                    · refine ⟨?_, ?_, ?_, ?_⟩ <;> first | omega | (simp; omega)
                    · (simp; omega)
                  · try replace hc6 := of_decide_eq_false hc6
                    refine Run.exit ?_
                    refine ⟨((_, _, _), _, (_, _), _, _), ?_, (SubE.cons rfl (SubE.cons rfl (SubE.cons rfl (SubE.nil _)))), (List.Sublist.refl _)⟩
                    · exact ⟨by omega, by omega, by omega, by omega⟩
              · try replace hc5 := of_decide_eq_false hc5
                refine Run.seq ?_
                refine Run.quiet (by intro h; cases h) ?_
                refine QOps.st rfl rfl (Yv.eqI rfl rfl).yl ?_
                refine QOps.st rfl rfl (Yv.assign rfl).yl ?_
                refine QOps.nil ?_
                refine Run.cond rfl (fun hc7 => ?_) (fun hc7 => ?_)
                · try replace hc7 := of_decide_eq_true hc7
                  refine Run.seq ?_
                  refine Run.quiet (by intro h; cases h) ?_
                  refine QOps.st rfl rfl (Yv.move rfl).yl ?_
                  refine QOps.st rfl rfl (Yv.cutTo0 0 el41 rfl rfl rfl (by omega)).yl ?_
                  refine QOps.st rfl rfl (Yv.assign rfl).yl ?_
                  refine QOps.nil ?_
                  refine Run.lessRow (l := o) (m' := 0) (i := 1) (H' := [_, _, _]) Tug.len rfl (Nat.zero_le _) rfl ?_
                  refine Run.ret ?_
                  refine retQ.of (.inr rfl) rfl (.tmp rfl .nil) (fun w' hw' => ?_)
                  exact retCR_of ((o.take 0)) (by first | rfl | simp) rfl (by first | omega | (simp; done) | (simp; omega)) (by omega) (by omega) hw'.bel (hw'.ent _ (List.mem_of_getElem? (i := 2) rfl)) (hw'.ent _ (List.mem_of_getElem? (i := 1) rfl)) (HOk.newRow hw' (i := 2) (j := 1) rfl rfl rfl)
                · try replace hc7 := of_decide_eq_false hc7
                  refine Run.skip ?_
                  refine ⟨((_, _, _), _, (_, _), _, _), ?_, (SubE.cons rfl (SubE.cons rfl (SubE.cons rfl (SubE.nil _)))), (List.Sublist.refl _)⟩
                  · exact ⟨by omega, by omega, by omega, by omega⟩
      · rintro ⟨⟨u, v, z⟩, q, ⟨A3, c3⟩, a3, s3⟩ ⟨ha3l, ha3h, hxq, hq20⟩
        show Run _ _ _ _ _ [(3, .slice A3 q.length c3), (6, .int .i64 x5), (7, .pointer (some ⟨b3, 0, none⟩))] [.blk b3 49 [.int .i64 u, .int .i64 v, .int .i64 z], .row A3 c3 49 3 q.length (q.flatMap Tug.enc), .blk g 83 [.slice A m c, .int .i64 a3, .int .u64 s3]] _
        refine Run.seq ?_
        refine Run.ops ?_
        refine SOps.st rfl rfl (Yv.move rfl).yl ?_
        refine SOps.st rfl rfl (Yv.move rfl).yl ?_
        refine SOps.st rfl rfl (Yv.loadBs (i := 0) lay49 rfl rfl rfl rfl).yl ?_
        refine SOps.st rfl rfl (Yv.indexAddr x5.toNat el41 rfl rfl (by omega) (Rd.row (i := 1) rfl) (by omega)).yl ?_
        refine SOps.one rfl (One.storeE (i := 1) (k := x5.toNat) (f := 0) (H' := [_, _, _]) (e := ⟨u, v, z⟩) lay49 rfl rfl rfl Tug.len rfl (by decide) rfl rfl rfl rfl (by omega) rfl ?_)
        refine SOps.nil ?_
        refine Run.seq ?_
        refine Run.quiet (by intro h; cases h) ?_
        refine QOps.st rfl rfl (Yv.move rfl).yl ?_
        refine QOps.st rfl rfl (Yv.assign rfl).yl ?_
        refine QOps.nil ?_
        refine Run.ret ?_
        refine retQ.of (.inr rfl) rfl (.tmp rfl .nil) (fun w' hw' => ?_)
        exact retCR_of ((q.set x5.toNat ⟨u, v, z⟩)) (by first | rfl | simp) rfl (by first | omega | (simp; done) | (simp; omega)) (by omega) (by omega) hw'.bel (hw'.ent _ (List.mem_of_getElem? (i := 2) rfl)) (hw'.ent _ (List.mem_of_getElem? (i := 1) rfl)) (HOk.newRow hw' (i := 2) (j := 1) rfl rfl rfl)
theorem tugJobs_spec {w : World} {g m c : Nat} {A : Option Addr} {xs : List UInt8} {at_ sd : Int} (hc : Cur w 83 g A m c xs at_ sd) (h0 : 0 ≤ at_) (h1 : at_ ≤ 3000000000000000000) :
    Calls Try.prog 60 #[.pointer (some ⟨g, 0, none⟩)] w (RetCR w 83 g (.slice A m c) at_ 200 51 5 Job.enc (fun (l : List Job) => l) (fun _ v => v) (fun l => l.length ≤ 20)) := by
  refine calls_of_run (vs := [_]) (L := [(0, _)]) (n := 44) (F := [g]) (H := [_]) Try.func60 rfl rfl rfl rfl (HOk.lend hc) ?_
  refine Run.seq ?_
  refine Run.quiet (by intro h; cases h) ?_
  refine QOps.st rfl rfl (Yv.assign rfl).yl ?_
  refine QOps.nil ?_
  refine Run.seq ?_
  refine Run.ops ?_
  refine SOps.one rfl (One.buildSliceG (pv := []) (cs := []) (fun _ => []) rfl el42 .nil rfl rfl (by kernel_rfl) rfl rfl (fun b1 => ?_))
  refine SOps.st rfl rfl (Yv.assign rfl).yl ?_
  refine SOps.nil ?_
  refine Run.seq ?_
  refine Run.quiet (by intro h; cases h) ?_
  refine QOps.st rfl rfl (Yv.assign rfl).yl ?_
  refine QOps.nil ?_
  refine Run.seq ?_
  refine Run.seq ?_
  refine Run.ops ?_
  refine SOps.st rfl rfl (Yv.move rfl).yl ?_
  refine SOps.one rfl (One.callC (i := 1) (H' := fun _ _ => [_, _]) rfl callable63 (.cons rfl (.cons rfl (.nil))) rfl (fun w' hw' => pick_spec (Cur.lent hc (i := 1) rfl hw') (by omega) (by omega)) (fun _ _ => rfl) (fun x1 at1 sd1 ⟨hxl1, hxh1⟩ ha1 hb1 => ?_))
  refine SOps.st rfl rfl (Yv.assign rfl).yl ?_
  refine SOps.nil ?_
  refine Run.block ?_
  refine Run.loop (S := Int × Int × List Job × Option Addr × Nat × Int × Int) (fun s => match s with | (z, i, o, A2, c2, a2, s2) => 0 ≤ z ∧ z ≤ 5 ∧ (o.length : Int) + z ≤ 5 ∧ at_ ≤ a2 ∧ a2 ≤ at_ + 2 + 24 * (5 - z) ∧ -20 + 4 * z ≤ i ∧ i ≤ 3 * (5 - z)) (fun s => match s with | (z, i, o, A2, c2, a2, s2) => [(0, .pointer (some ⟨g, 0, none⟩)), (3, .slice A2 o.length c2), (4, .int .i64 i), (5, .int .i64 z)]) (fun s => match s with | (z, i, o, A2, c2, a2, s2) => [.row A2 c2 51 5 o.length (o.flatMap Job.enc), .blk g 83 [.slice A m c, .int .i64 a2, .int .u64 s2]]) (fun s => match s with | (z, i, o, A2, c2, a2, s2) => z.toNat) (_, 0, [], some ⟨b1, 0, none⟩, 0, _, _) ?_ (SubE.cons rfl (SubE.cons rfl (SubE.cons rfl (SubE.cons rfl (SubE.nil _))))) (List.Sublist.refl _) ?_
  · exact ⟨by omega, by omega, by simp; omega, by omega, by omega, by omega, by omega⟩
  · rintro ⟨z, i, o, A2, c2, a2, s2⟩ ⟨hz0, hz4, hol, ha2l, ha2h, hi0, hi1⟩
    show Run _ _ _ _ _ [(0, .pointer (some ⟨g, 0, none⟩)), (3, .slice A2 o.length c2), (4, .int .i64 i), (5, .int .i64 z)] [.row A2 c2 51 5 o.length (o.flatMap Job.enc), .blk g 83 [.slice A m c, .int .i64 a2, .int .u64 s2]] _
    refine Run.seq ?_
    refine Run.seq ?_
    refine Run.quiet (by intro h; cases h) ?_
    refine QOps.st rfl rfl (Yv.move rfl).yl ?_
    refine QOps.st rfl rfl (Yv.gtr rfl rfl).yl ?_
    refine QOps.nil ?_
    refine Run.cond rfl (fun hc1 => ?_) (fun hc1 => ?_)
    · try replace hc1 := of_decide_eq_true hc1
      refine Run.skip ?_
      refine Run.seq ?_
      refine Run.block ?_
      refine Run.seq ?_
      refine Run.ops ?_
      refine SOps.st rfl rfl (Yv.move rfl).yl ?_
      refine SOps.st rfl rfl (Yv.add rfl rfl (by omega)).yl ?_
      refine SOps.st rfl rfl (Yv.move rfl).yl ?_
      refine SOps.one rfl (One.callC (i := 1) (H' := fun _ _ => [_, _]) rfl callable63 (.cons rfl (.cons rfl (.nil))) rfl (fun w' hw' => pick_spec (Cur.lent hc (i := 1) rfl hw') (by omega) (by omega)) (fun _ _ => rfl) (fun x2 at2 sd2 ⟨hxl2, hxh2⟩ ha2 hb2 => ?_))
      refine SOps.st rfl rfl (Yv.add rfl rfl (by omega)).yl ?_
      refine SOps.st rfl rfl (Yv.move rfl).yl ?_
      refine SOps.one rfl (One.callC (i := 1) (H' := fun _ _ => [_, _]) rfl callable63 (.cons rfl (.cons rfl (.nil))) rfl (fun w' hw' => pick_spec (Cur.lent hc (i := 1) rfl hw') (by omega) (by omega)) (fun _ _ => rfl) (fun x3 at3 sd3 ⟨hxl3, hxh3⟩ ha3 hb3 => ?_))
      refine SOps.st rfl rfl (Yv.quoP rfl rfl (by omega) (by omega) (by omega)).yl ?_
      refine SOps.st rfl rfl (Yv.sub rfl rfl (by omega)).yl ?_
      refine SOps.st rfl rfl (Yv.assign rfl).yl ?_
      refine SOps.nil ?_
      refine Run.ops ?_
      refine SOps.st rfl rfl (Yv.move rfl).yl ?_
      refine SOps.st rfl rfl (Yv.move rfl).yl ?_
      refine SOps.st rfl rfl (Yv.move rfl).yl ?_
      refine SOps.one rfl (One.callC (i := 1) (H' := fun _ _ => [_, _]) rfl callable71 (.cons rfl (.cons rfl (.nil))) rfl (fun w' hw' => tugJob_spec (Cur.lent hc (i := 1) rfl hw') (by omega) (by omega)) (fun _ _ => rfl) (fun x4 at4 sd4 _ ha4 hb4 => ?_))
      refine SOps.one rfl (One.buildSliceG (pv := [(0, _)]) (cs := [_, _, _, _, _]) (fun l => match l with | [.agg ⟨[a0_0, a0_1, a0_2, a0_3, a0_4]⟩] => [a0_0, a0_1, a0_2, a0_3, a0_4] | _ => []) rfl el42 (.cons rfl (.nil)) rfl rfl (by kernel_rfl) rfl rfl (fun b2 => ?_))
      refine SOps.one rfl (One.append (enc := Job.enc) (l := o) (l2 := [x4]) (m' := (o ++ [(x4 : Job)]).length) (i := 1) (H' := fun A c => [_, _, _]) rfl el42 zero51 rfl (by decide) rfl rfl rfl (Rd.row (i := 0) rfl) (fun _ => rfl) (by simp) (by simp; omega) (by simp; omega) (fun _ _ => rfl) (fun A1 c1 => ?_))
      refine SOps.st rfl rfl (Yv.assign rfl).yl ?_
      refine SOps.nil ?_
      refine Run.quiet (by intro h; cases h) ?_
      refine QOps.st rfl rfl (Yv.move rfl).yl ?_
      refine QOps.st rfl rfl (Yv.sub rfl rfl (by omega)).yl ?_
      refine QOps.st rfl rfl (Yv.assign rfl).yl ?_
      refine QOps.nil ?_
      refine ⟨(z - 1, _, _, _, _, _, _), ?_, ?_, (SubE.cons rfl (SubE.cons rfl (SubE.cons rfl (SubE.cons rfl (SubE.nil _))))), (List.Sublist.cons _ (List.Sublist.refl _))⟩
      · exact ⟨by omega, by omega, (by simp; omega), by omega, by omega, by omega, by omega⟩
      · first | omega | (dsimp only; omega)
    · try replace hc1 := of_decide_eq_false hc1
      refine Run.exit ?_
      refine Run.seq ?_
      refine Run.seq ?_
      refine Run.ops ?_
      refine SOps.st rfl rfl (Yv.move rfl).yl ?_
      refine SOps.one rfl (One.callC (i := 1) (H' := fun _ _ => [_, _]) rfl callable62 (.cons rfl (.cons rfl (.nil))) rfl (fun w' hw' => one_spec (Cur.lent hc (i := 1) rfl hw') (by omega) (by omega)) (fun _ _ => rfl) (fun x5 at5 sd5 _ ha5 hb5 => ?_))
      refine SOps.nil ?_
      refine Run.cond rfl (fun hc2 => ?_) (fun hc2 => ?_)
      · try replace hc2 := of_decide_eq_true hc2
        refine Run.block ?_
        refine Run.loop (S := Int × List Job × Option Addr × Nat × Int × Int) (fun s => match s with | (i, o, A2, c2, a3, s3) => o.length ≤ 12 ∧ at_ ≤ a3 ∧ a3 ≤ at_ + 130 + 2 * (o.length : Int) ∧ -100 ≤ i ∧ i ≤ 100 + (o.length : Int)) (fun s => match s with | (i, o, A2, c2, a3, s3) => [(0, .pointer (some ⟨g, 0, none⟩)), (3, .slice A2 o.length c2), (4, .int .i64 i)]) (fun s => match s with | (i, o, A2, c2, a3, s3) => [.row A2 c2 51 5 o.length (o.flatMap Job.enc), .blk g 83 [.slice A m c, .int .i64 a3, .int .u64 s3]]) (fun s => match s with | (i, o, A2, c2, a3, s3) => 12 - o.length) (_, o, A2, c2, _, _) ?_ (SubE.cons rfl (SubE.cons rfl (SubE.cons rfl (SubE.nil _)))) (List.Sublist.refl _) ?_
        · exact ⟨by omega, by omega, by omega, by omega, by omega⟩
        · rintro ⟨i, o, A2, c2, a3, s3⟩ ⟨ho12, ha3l, ha3h, hi0, hi1⟩
          show Run _ _ _ _ _ [(0, .pointer (some ⟨g, 0, none⟩)), (3, .slice A2 o.length c2), (4, .int .i64 i)] [.row A2 c2 51 5 o.length (o.flatMap Job.enc), .blk g 83 [.slice A m c, .int .i64 a3, .int .u64 s3]] _
          refine Run.seq ?_
          refine Run.seq ?_
          refine Run.ops ?_
          refine SOps.st rfl rfl (Yv.move rfl).yl ?_
          refine SOps.st rfl rfl (Yv.lenS el42s rfl).yl ?_
          refine SOps.st rfl rfl (Yv.move rfl).yl ?_
          refine SOps.one rfl (One.callC (i := 1) (H' := fun _ _ => [_, _]) rfl callable63 (.cons rfl (.cons rfl (.nil))) rfl (fun w' hw' => pick_spec (Cur.lent hc (i := 1) rfl hw') (by omega) (by omega)) (fun _ _ => rfl) (fun x6 at6 sd6 ⟨hxl6, hxh6⟩ ha6 hb6 => ?_))
          refine SOps.st rfl rfl (Yv.add rfl rfl (by omega)).yl ?_
          refine SOps.st rfl rfl (Yv.lss rfl rfl).yl ?_
          refine SOps.nil ?_
          refine Run.cond rfl (fun hc3 => ?_) (fun hc3 => ?_)
          · try replace hc3 := of_decide_eq_true hc3
            refine Run.skip ?_
            refine Run.block ?_
            refine Run.seq ?_
            refine Run.quiet (by intro h; cases h) ?_
            refine QOps.st rfl rfl (Yv.move rfl).yl ?_
            refine QOps.st rfl rfl (Yv.add rfl rfl (by omega)).yl ?_
            refine QOps.st rfl rfl (Yv.assign rfl).yl ?_
            refine QOps.nil ?_
            refine Run.ops ?_
            refine SOps.st rfl rfl (Yv.move rfl).yl ?_
            refine SOps.st rfl rfl (Yv.move rfl).yl ?_
            refine SOps.st rfl rfl (Yv.buildG (pv := [(0, _), (3, _)]) (cs := [_, _, _, _, _]) (fun l => match l with | [a0_0, a1_0] => [a0_0, .int .i64 0, .int .i64 0, a1_0, .int .i64 0] | _ => []) (.cons rfl (.cons rfl (.nil))) rfl rfl (by kernel_rfl)).yl ?_
            refine SOps.one rfl (One.buildSliceG (pv := [(0, _)]) (cs := [_, _, _, _, _]) (fun l => match l with | [.agg ⟨[a0_0, a0_1, a0_2, a0_3, a0_4]⟩] => [a0_0, a0_1, a0_2, a0_3, a0_4] | _ => []) rfl el42 (.cons rfl (.nil)) rfl rfl (by kernel_rfl) rfl rfl (fun b3 => ?_))
            refine SOps.one rfl (One.append (enc := Job.enc) (l := o) (l2 := [⟨(i + 1), 0, 0, 1, 0⟩]) (m' := (o ++ [(⟨(i + 1), 0, 0, 1, 0⟩ : Job)]).length) (i := 1) (H' := fun A c => [_, _, _]) rfl el42 zero51 rfl (by decide) rfl rfl rfl (Rd.row (i := 0) rfl) (fun _ => rfl) (by simp) (by simp; omega) (by simp; omega) (fun _ _ => rfl) (fun A2 c2 => ?_))
            refine SOps.st rfl rfl (Yv.assign rfl).yl ?_
            refine SOps.nil ?_
            refine ⟨(_, _, _, _, _, _), ?_, ?_, (SubE.cons rfl (SubE.cons rfl (SubE.cons rfl (SubE.nil _)))), (List.Sublist.cons _ (List.Sublist.refl _))⟩
            · refine ⟨?_, by omega, ?_, by omega, ?_⟩ <;> first | omega | (simp; omega)
            · (simp; omega)
          · try replace hc3 := of_decide_eq_false hc3
            refine Run.exit ?_
            refine Run.seq ?_
            refine Run.quiet (by intro h; cases h) ?_
            refine QOps.st rfl rfl (Yv.move rfl).yl ?_
            refine QOps.st rfl rfl (Yv.assign rfl).yl ?_
            refine QOps.nil ?_
            refine Run.ret ?_
            refine retQ.of (.inr rfl) rfl (.tmp rfl .nil) (fun w' hw' => ?_)
            exact retCR_of (o) (by first | rfl | simp) rfl (by first | omega | (simp; done) | (simp; omega)) (by omega) (by omega) hw'.bel (hw'.ent _ (List.mem_of_getElem? (i := 1) rfl)) (hw'.ent _ (List.mem_of_getElem? (i := 0) rfl)) (HOk.newRow hw' (i := 1) (j := 0) rfl rfl rfl)
      · try replace hc2 := of_decide_eq_false hc2
        refine Run.skip ?_
        refine Run.seq ?_
        refine Run.quiet (by intro h; cases h) ?_
        refine QOps.st rfl rfl (Yv.move rfl).yl ?_
        refine QOps.st rfl rfl (Yv.assign rfl).yl ?_
        refine QOps.nil ?_
        refine Run.ret ?_
        refine retQ.of (.inr rfl) rfl (.tmp rfl .nil) (fun w' hw' => ?_)
        exact retCR_of (o) (by first | rfl | simp) rfl (by first | omega | (simp; done) | (simp; omega)) (by omega) (by omega) hw'.bel (hw'.ent _ (List.mem_of_getElem? (i := 1) rfl)) (hw'.ent _ (List.mem_of_getElem? (i := 0) rfl)) (HOk.newRow hw' (i := 1) (j := 0) rfl rfl rfl)
theorem tugPlan_spec {w : World} {g m c : Nat} {A : Option Addr} {xs : List UInt8} {at_ sd : Int} {A2 A3 : Option Addr} {c2 c3 : Nat} {ts : List Tug} {js : List Job} (hc : Cur w 83 g A m c xs at_ sd) (h0 : 0 ≤ at_) (h1 : at_ ≤ 3000000000000000000)
    (hs : Sl w 3 A2 ts.length c2 (ts.flatMap Tug.enc)) (hs2 : Sl w 5 A3 js.length c3 (js.flatMap Job.enc)) (hjl : js.length ≤ 20) (hne1 : 0 < ts.length → (adr A2).block ≠ g) (hne2 : 0 < js.length → (adr A3).block ≠ g) :
    Calls Try.prog 61 #[.pointer (some ⟨g, 0, none⟩), .slice A2 ts.length c2, .slice A3 js.length c3] w (RetCR w 83 g (.slice A m c) at_ 200 3 1 intC (fun (l : List Int) => l) (fun _ v => v) (fun l => l.length ≤ 21)) := by
  refine calls_of_run (vs := [_, _, _]) (L := [(0, _), (1, _), (2, _)]) (n := 65) (F := [g]) (H := [_]) Try.func61 rfl rfl rfl rfl (HOk.lend hc) ?_
  refine Run.seq ?_
  refine Run.quiet (by intro h; cases h) ?_
  refine QOps.st rfl rfl (Yv.assign rfl).yl ?_
  refine QOps.nil ?_
  refine Run.seq ?_
  refine Run.ops ?_
  refine SOps.one rfl (One.buildSliceG (pv := []) (cs := []) (fun _ => []) rfl el43 .nil rfl rfl (by kernel_rfl) rfl rfl (fun b1 => ?_))
  refine SOps.st rfl rfl (Yv.assign rfl).yl ?_
  refine SOps.nil ?_
  refine Run.seq ?_
  refine Run.seq ?_
  refine Run.quiet (by intro h; cases h) ?_
  refine QOps.st rfl rfl (Yv.assign rfl).yl ?_
  refine QOps.nil ?_
  refine Run.block ?_
  refine Run.loop (S := Nat × List Int × Option Addr × Nat × Int × Int) (fun s => match s with | (k, o, A4, c4, a2, s2) => k ≤ js.length ∧ o.length = k ∧ at_ ≤ a2 ∧ a2 ≤ at_ + 2 * (k : Int)) (fun s => match s with | (k, o, A4, c4, a2, s2) => [(0, .pointer (some ⟨g, 0, none⟩)), (1, .slice A2 ts.length c2), (2, .slice A3 js.length c3), (7, .slice A4 o.length c4), (8, .int .i64 (k : Int))]) (fun s => match s with | (k, o, A4, c4, a2, s2) => [.row A4 c4 3 1 o.length (o.flatMap intC), .blk g 83 [.slice A m c, .int .i64 a2, .int .u64 s2]]) (fun s => match s with | (k, o, A4, c4, a2, s2) => js.length - k) (0, [], some ⟨b1, 0, none⟩, 0, _, _) ?_ (SubE.cons rfl (SubE.cons rfl (SubE.cons rfl (SubE.cons rfl (SubE.cons rfl (SubE.nil _)))))) (List.Sublist.refl _) ?_
  · exact ⟨Nat.zero_le _, rfl, by omega, by omega⟩
  · rintro ⟨k, o, A4, c4, a2, s2⟩ ⟨hk, hol, ha2l, ha2h⟩
    show Run _ _ _ _ _ [(0, .pointer (some ⟨g, 0, none⟩)), (1, .slice A2 ts.length c2), (2, .slice A3 js.length c3), (7, .slice A4 o.length c4), (8, .int .i64 (k : Int))] [.row A4 c4 3 1 o.length (o.flatMap intC), .blk g 83 [.slice A m c, .int .i64 a2, .int .u64 s2]] _
    refine Run.seq ?_
    refine Run.seq ?_
    refine Run.quiet (by intro h; cases h) ?_
    refine QOps.st rfl rfl (Yv.move rfl).yl ?_
    refine QOps.st rfl rfl (Yv.move rfl).yl ?_
    refine QOps.st rfl rfl (Yv.lenS el42s rfl).yl ?_
    refine QOps.st rfl rfl (Yv.lss rfl rfl).yl ?_
    refine QOps.nil ?_
    refine Run.cond rfl (fun hc1 => ?_) (fun hc1 => ?_)
    · try replace hc1 := of_decide_eq_true hc1
      refine Run.skip ?_
      refine Run.seq ?_
      refine Run.block ?_
      refine Run.seq ?_
      refine Run.ops ?_
      refine SOps.st rfl rfl (Yv.move rfl).yl ?_
      refine SOps.st rfl rfl (Yv.move rfl).yl ?_
      refine SOps.st rfl rfl (Yv.move rfl).yl ?_
      refine SOps.st rfl rfl (Yv.indexAddr k el42 rfl rfl rfl (Rd.argN hs2 (fun h => by simpa using hne2 h)) (by omega)).yl ?_
      refine SOps.st rfl rfl (Yv.fieldAddr fld51_3 rfl).yl ?_
      refine SOps.st rfl rfl (Yv.loadF lay3 rfl Job.len (Rd.argN hs2 (fun h => by simpa using hne2 h)) (by first | omega | (simp; omega)) (by decide) rfl).yl ?_
      refine SOps.one rfl (One.callRow rfl callable30 (.cons rfl (.cons rfl (.nil))) (fun w' hw' => sStrongTugs_spec ((Rd.argN hs (fun h => by simpa using hne1 h)) w' hw')) (fun A11 c11 => ?_))
      refine SOps.st rfl rfl (Yv.move rfl).yl ?_
      refine SOps.st rfl rfl (Yv.extract rfl rfl).yl ?_
      refine SOps.st rfl rfl (Yv.extract rfl rfl).yl ?_
      refine SOps.st rfl rfl (Yv.assign rfl).yl ?_
      refine SOps.st rfl rfl (Yv.assign rfl).yl ?_
      refine SOps.nil ?_
      refine Run.seq ?_
      refine Run.quiet (by intro h; cases h) ?_
      refine QOps.st rfl rfl (Yv.move rfl).yl ?_
      refine QOps.st rfl rfl (Yv.move rfl).yl ?_
      refine' QOps.and [_, _, _] _ (.tmp 32) rfl rfl rfl rfl rfl rfl (fun hg1 => ?_) ?_
      rotate_left
      · try replace hg1 := of_decide_eq_true hg1
        refine QOps.st rfl rfl (Yv.move rfl).yl ?_
        refine QOps.st rfl rfl (Yv.lenS el43s rfl).yl ?_
        refine QOps.st rfl rfl (Yv.gtr rfl rfl).yl ?_
        exact QOps.nil rfl
      refine QOps.nil ?_
      refine Run.cond rfl (fun hc2 => ?_) (fun hc2 => ?_)
      · try replace hc2 := of_decide_eq_true hc2
        have hsl : 0 < (strongOf ts (nth js k).power).1.length := by rw [Bool.and_eq_true] at hc2; have h9 := of_decide_eq_true hc2.2; omega
        have hst : (strongOf ts (nth js k).power).1.length ≤ 4 := by
              unfold strongOf
              split
              · rename_i hy
                rw [Bool.and_eq_true] at hy
                have h8 := strongTo_len (ts := ts) (p := (nth js k).power) (n := ts.length)
                have h7 := (tugs_is hy.1).len
                simp only
                omega
              · simp
        refine Run.ops ?_
        refine SOps.st rfl rfl (Yv.move rfl).yl ?_
        refine SOps.st rfl rfl (Yv.move rfl).yl ?_
        refine SOps.st rfl rfl (Yv.move rfl).yl ?_
        refine SOps.st rfl rfl (Yv.move rfl).yl ?_
        refine SOps.st rfl rfl (Yv.lenS el43s rfl).yl ?_
        refine SOps.one rfl (One.callC (i := 2) (H' := fun _ _ => [_, _, _]) rfl callable63 (.cons rfl (.cons rfl (.nil))) rfl (fun w' hw' => pick_spec (Cur.lent hc (i := 2) rfl hw') (by omega) (by omega)) (fun _ _ => rfl) (fun x1 at1 sd1 ⟨hxl1, hxh1⟩ ha1 hb1 => ?_))
        refine SOps.st rfl rfl (Yv.indexAddr x1.toNat el43 rfl rfl (by omega) (Rd.row (i := 0) rfl) (by omega)).yl ?_
        refine SOps.st rfl rfl (Yv.loadE lay3 rfl intC_len (Rd.row (i := 0) rfl) (by omega) rfl).yl ?_
        refine SOps.one rfl (One.buildSliceG (pv := [(0, _)]) (cs := [_]) (fun l => match l with | [a0_0] => [a0_0] | _ => []) rfl el43 (.cons rfl (.nil)) rfl rfl (by kernel_rfl) rfl rfl (fun b2 => ?_))
        refine SOps.one rfl (One.append (enc := intC) (l := o) (l2 := [nth (strongOf ts (nth js k).power).1 x1.toNat]) (m' := (o ++ [(nth (strongOf ts (nth js k).power).1 x1.toNat : Int)]).length) (i := 2) (H' := fun A c => [_, _, _, _]) rfl el43 zero3 rfl (by decide) rfl rfl rfl (Rd.row (i := 0) rfl) (fun _ => rfl) (by simp) (by simp; omega) (by simp; omega) (fun _ _ => rfl) (fun A12 c12 => ?_))
        refine SOps.st rfl rfl (Yv.assign rfl).yl ?_
        refine SOps.nil ?_
        refine Run.quiet (by intro h; cases h) ?_
        refine QOps.st rfl rfl (Yv.move rfl).yl ?_
        refine QOps.st rfl rfl (Yv.succN rfl rfl (by omega)).yl ?_
        refine QOps.st rfl rfl (Yv.assign rfl).yl ?_
        refine QOps.nil ?_
        refine ⟨(k + 1, _, _, _, _, _), ?_, ?_, (SubE.cons rfl (SubE.cons rfl (SubE.cons rfl (SubE.cons rfl (SubE.cons rfl (SubE.nil _)))))), (List.Sublist.cons _ (List.Sublist.cons _ (List.Sublist.refl _)))⟩
        · exact ⟨by omega, (by simp; omega), by omega, by omega⟩
        · first | omega | (dsimp only; omega)
      · try replace hc2 := of_decide_eq_false hc2
        refine Run.ops ?_
        refine SOps.st rfl rfl (Yv.move rfl).yl ?_
        refine SOps.one rfl (One.buildSliceG (pv := [(0, _)]) (cs := [_]) (fun l => match l with | [a0_0] => [a0_0] | _ => []) rfl el43 (.cons rfl (.nil)) rfl rfl (by kernel_rfl) rfl rfl (fun b3 => ?_))
        refine SOps.one rfl (One.append (enc := intC) (l := o) (l2 := [1]) (m' := (o ++ [(1 : Int)]).length) (i := 2) (H' := fun A c => [_, _, _, _]) rfl el43 zero3 rfl (by decide) rfl rfl rfl (Rd.row (i := 0) rfl) (fun _ => rfl) (by simp) (by simp; omega) (by simp; omega) (fun _ _ => rfl) (fun A13 c13 => ?_))
        refine SOps.st rfl rfl (Yv.assign rfl).yl ?_
        refine SOps.nil ?_
        refine Run.quiet (by intro h; cases h) ?_
        refine QOps.st rfl rfl (Yv.move rfl).yl ?_
        refine QOps.st rfl rfl (Yv.succN rfl rfl (by omega)).yl ?_
        refine QOps.st rfl rfl (Yv.assign rfl).yl ?_
        refine QOps.nil ?_
        refine ⟨(k + 1, _, _, _, _, _), ?_, ?_, (SubE.cons rfl (SubE.cons rfl (SubE.cons rfl (SubE.cons rfl (SubE.cons rfl (SubE.nil _)))))), (List.Sublist.cons _ (List.Sublist.cons _ (List.Sublist.refl _)))⟩
        · exact ⟨by omega, (by simp; omega), by omega, by omega⟩
        · first | omega | (dsimp only; omega)
    · try replace hc1 := of_decide_eq_false hc1
      refine Run.exit ?_
      refine Run.seq ?_
      refine Run.seq ?_
      refine Run.ops ?_
      refine SOps.st rfl rfl (Yv.move rfl).yl ?_
      refine SOps.one rfl (One.callC (i := 1) (H' := fun _ _ => [_, _]) rfl callable63 (.cons rfl (.cons rfl (.nil))) rfl (fun w' hw' => pick_spec (Cur.lent hc (i := 1) rfl hw') (by omega) (by omega)) (fun _ _ => rfl) (fun x2 at2 sd2 ⟨hxl2, hxh2⟩ ha2 hb2 => ?_))
      refine SOps.nil ?_
      refine Run.block ?_
      refine Run.seq ?_
      refine Run.quiet (by intro h; cases h) ?_
      refine QOps.st rfl rfl (Yv.eqI rfl rfl).yl ?_
      refine QOps.st rfl rfl (Yv.assign rfl).yl ?_
      refine QOps.nil ?_
      refine Run.cond rfl (fun hc3 => ?_) (fun hc3 => ?_)
      · try replace hc3 := of_decide_eq_true hc3
        refine Run.ops ?_
        refine SOps.st rfl rfl (Yv.move rfl).yl ?_
        refine SOps.one rfl (One.buildSliceG (pv := [(0, _)]) (cs := [_]) (fun l => match l with | [a0_0] => [a0_0] | _ => []) rfl el43 (.cons rfl (.nil)) rfl rfl (by kernel_rfl) rfl rfl (fun b4 => ?_))
        refine SOps.one rfl (One.append (enc := intC) (l := o) (l2 := [1]) (m' := (o ++ [(1 : Int)]).length) (i := 1) (H' := fun A c => [_, _, _]) rfl el43 zero3 rfl (by decide) rfl rfl rfl (Rd.row (i := 0) rfl) (fun _ => rfl) (by simp) (by simp; omega) (by simp; omega) (fun _ _ => rfl) (fun A14 c14 => ?_))
        refine SOps.st rfl rfl (Yv.assign rfl).yl ?_
        refine SOps.nil ?_
        refine Run.seq ?_
        refine Run.quiet (by intro h; cases h) ?_
        refine QOps.st rfl rfl (Yv.move rfl).yl ?_
        refine QOps.st rfl rfl (Yv.assign rfl).yl ?_
        refine QOps.nil ?_
        refine Run.ret ?_
        refine retQ.of (.inr rfl) rfl (.tmp rfl .nil) (fun w' hw' => ?_)
        exact retCR_of ((o ++ [(1 : Int)])) (by first | rfl | simp) rfl (by first | omega | (simp; done) | (simp; omega)) (by omega) (by omega) hw'.bel (hw'.ent _ (List.mem_of_getElem? (i := 2) rfl)) (hw'.ent _ (List.mem_of_getElem? (i := 1) rfl)) (HOk.newRow hw' (i := 2) (j := 1) rfl rfl rfl)
      · try replace hc3 := of_decide_eq_false hc3
        refine Run.seq ?_
        refine Run.quiet (by intro h; cases h) ?_
        refine QOps.st rfl rfl (Yv.eqI rfl rfl).yl ?_
        refine QOps.st rfl rfl (Yv.assign rfl).yl ?_
        refine QOps.nil ?_
        refine Run.cond rfl (fun hc4 => ?_) (fun hc4 => ?_)
        · try replace hc4 := of_decide_eq_true hc4
          refine Run.seq ?_
          refine Run.quiet (by intro h; cases h) ?_
          refine QOps.st rfl rfl (Yv.move rfl).yl ?_
          refine QOps.st rfl rfl (Yv.lenS el43s rfl).yl ?_
          refine QOps.st rfl rfl (Yv.gtr rfl rfl).yl ?_
          refine QOps.nil ?_
          refine Run.cond rfl (fun hc5 => ?_) (fun hc5 => ?_)
          · try replace hc5 := of_decide_eq_true hc5
            refine Run.ops ?_
            refine SOps.st rfl rfl (Yv.move rfl).yl ?_
            refine SOps.st rfl rfl (Yv.move rfl).yl ?_
            refine SOps.one rfl (One.buildSliceG (pv := [(0, _), (1, _), (2, _)]) (cs := [_, _, _]) (fun l => match l with | [a0_0, a1_0, a2_0] => [a0_0, a1_0, a2_0] | _ => []) rfl el43 (.cons rfl (.cons rfl (.cons rfl (.nil)))) rfl rfl (by kernel_rfl) rfl rfl (fun b5 => ?_))
            refine SOps.one rfl (One.callC (i := 2) (H' := fun _ _ => [_, _, _]) rfl callable64 (.cons rfl (.cons rfl (.nil))) rfl (fun w' hw' => among_spec (Cur.lent hc (i := 2) rfl hw') (by omega) (by omega) (l := [0, 1, 50]) ((Rd.row (i := 0) rfl) w' hw') (by simp; try omega) (by first | omega | simp) (by first | omega | simp) (fun hm => HOk.rowNe hw' (i := 2) (j := 0) rfl rfl rfl (by first | exact hm | omega))) (fun _ _ => rfl) (fun x3 at3 sd3 hx3 ha3 hb3 => ?_))
            refine SOps.st rfl rfl (Yv.indexAddr 0 el43 rfl rfl rfl (Rd.row (i := 1) rfl) (by omega)).yl ?_
            refine SOps.one rfl (One.storeE (i := 1) (k := 0) (f := 0) (H' := [_, _, _]) (e := x3) lay3 rfl rfl rfl intC_len rfl (by decide) rfl rfl rfl rfl (by omega) rfl ?_)
            refine SOps.nil ?_
            refine Run.seq ?_
            refine Run.quiet (by intro h; cases h) ?_
            refine QOps.st rfl rfl (Yv.move rfl).yl ?_
            refine QOps.st rfl rfl (Yv.assign rfl).yl ?_
            refine QOps.nil ?_
            refine Run.ret ?_
            refine retQ.of (.inr rfl) rfl (.tmp rfl .nil) (fun w' hw' => ?_)
            exact retCR_of ((o.set 0 x3)) (by first | rfl | simp) rfl (by first | omega | (simp; done) | (simp; omega)) (by omega) (by omega) hw'.bel (hw'.ent _ (List.mem_of_getElem? (i := 2) rfl)) (hw'.ent _ (List.mem_of_getElem? (i := 1) rfl)) (HOk.newRow hw' (i := 2) (j := 1) rfl rfl rfl)
          · try replace hc5 := of_decide_eq_false hc5
            refine Run.skip ?_
            refine Run.seq ?_
            refine Run.quiet (by intro h; cases h) ?_
            refine QOps.st rfl rfl (Yv.move rfl).yl ?_
            refine QOps.st rfl rfl (Yv.assign rfl).yl ?_
            refine QOps.nil ?_
            refine Run.ret ?_
            refine retQ.of (.inr rfl) rfl (.tmp rfl .nil) (fun w' hw' => ?_)
            exact retCR_of (o) (by first | rfl | simp) rfl (by first | omega | (simp; done) | (simp; omega)) (by omega) (by omega) hw'.bel (hw'.ent _ (List.mem_of_getElem? (i := 1) rfl)) (hw'.ent _ (List.mem_of_getElem? (i := 0) rfl)) (HOk.newRow hw' (i := 1) (j := 0) rfl rfl rfl)
        · try replace hc4 := of_decide_eq_false hc4
          refine Run.skip ?_
          refine Run.seq ?_
          refine Run.quiet (by intro h; cases h) ?_
          refine QOps.st rfl rfl (Yv.move rfl).yl ?_
          refine QOps.st rfl rfl (Yv.assign rfl).yl ?_
          refine QOps.nil ?_
          refine Run.ret ?_
          refine retQ.of (.inr rfl) rfl (.tmp rfl .nil) (fun w' hw' => ?_)
          exact retCR_of (o) (by first | rfl | simp) rfl (by first | omega | (simp; done) | (simp; omega)) (by omega) (by omega) hw'.bel (hw'.ent _ (List.mem_of_getElem? (i := 1) rfl)) (hw'.ent _ (List.mem_of_getElem? (i := 0) rfl)) (HOk.newRow hw' (i := 1) (j := 0) rfl rfl rfl)
end Go.Proofs.Ytkkmmbogeeopaaa
