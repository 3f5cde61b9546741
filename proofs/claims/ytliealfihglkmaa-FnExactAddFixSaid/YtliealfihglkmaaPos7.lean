/- Fixes are drawn. Conditions: none. -/
import Derived.Test.YtliealfihglkmaaPos6
namespace Go.Proofs.Ytliealfihglkmaa
open Go.RowKit
set_option maxRecDepth 100000
/-- A number's cell. -/
def intC (n : Int) : List Value := [.int .i64 n]
theorem intC_len (n : Int) : (intC n).length = 1 := rfl

theorem next_spec {w : World} {g m c : Nat} {A : Option Addr} {xs : List UInt8} {at_ sd : Int} (hc : Cur w 85 g A m c xs at_ sd) (h0 : 0 ≤ at_) (h1 : at_ ≤ 9000000000000000000) : Calls Try.prog 82 #[.pointer (some ⟨g, 0, none⟩)] w (RetC w 85 g (.slice A m c) at_ 1 (fun (x : Int) => .int .i64 x) (fun x => 0 ≤ x ∧ x ≤ 255)) := by
  have hxl : xs.length = m := by have := hc.code.len; rw [flat_len byteC_len] at this; omega
  refine calls_of_run (vs := [_]) (L := [(0, _)]) (n := 62) (F := [g]) (H := [_]) Try.func82 rfl rfl rfl rfl (HOk.lend hc) ?_
  refine Run.seq ?_
  refine Run.quiet (by intro h; cases h) ?_
  refine QOps.st rfl rfl (Yv.assign rfl).yl ?_
  refine QOps.nil ?_
  refine Run.seq ?_
  refine Run.quiet (by intro h; cases h) ?_
  refine QOps.st rfl rfl (Yv.assign rfl).yl ?_
  refine QOps.nil ?_
  refine Run.seq ?_
  refine Run.seq ?_
  refine Run.quiet (fun _ => ⟨by kernel_rfl, by kernel_rfl⟩) ?_
  refine QOps.st rfl rfl (Yv.move rfl).yl ?_
  refine QOps.st rfl rfl (Yv.nilCheck rfl).yl ?_
  refine QOps.st rfl rfl (Yv.fieldAddr fld85_1 rfl).yl ?_
  refine QOps.st rfl rfl (Yv.loadB (i := 0) lay3 rfl rfl rfl rfl).yl ?_
  refine QOps.st rfl rfl (Yv.move rfl).yl ?_
  refine QOps.st rfl rfl (Yv.nilCheck rfl).yl ?_
  refine QOps.st rfl rfl (Yv.fieldAddr fld85_0 rfl).yl ?_
  refine QOps.st rfl rfl (Yv.loadB (i := 0) lay58 rfl rfl rfl rfl).yl ?_
  refine QOps.st rfl rfl (Yv.lenS el58s rfl).yl ?_
  refine QOps.st rfl rfl (Yv.lss rfl rfl).yl ?_
  refine QOps.nil ?_
  refine Run.cond rfl (fun hc1 => ?_) (fun hc1 => ?_)
  · try replace hc1 := of_decide_eq_true hc1
    refine Run.quiet (fun _ => ⟨by kernel_rfl, by kernel_rfl⟩) ?_
    refine QOps.st rfl rfl (Yv.move rfl).yl ?_
    refine QOps.st rfl rfl (Yv.nilCheck rfl).yl ?_
    refine QOps.st rfl rfl (Yv.fieldAddr fld85_0 rfl).yl ?_
    refine QOps.st rfl rfl (Yv.loadB (i := 0) lay58 rfl rfl rfl rfl).yl ?_
    refine QOps.st rfl rfl (Yv.move rfl).yl ?_
    refine QOps.st rfl rfl (Yv.nilCheck rfl).yl ?_
    refine QOps.st rfl rfl (Yv.fieldAddr fld85_1 rfl).yl ?_
    refine QOps.st rfl rfl (Yv.loadB (i := 0) lay3 rfl rfl rfl rfl).yl ?_
    refine QOps.st rfl rfl (Yv.indexAddr at_.toNat el58 rfl rfl (by omega) hc.rd (by omega)).yl ?_
    refine QOps.st rfl rfl (Yv.loadE lay5 rfl byteC_len hc.rd (by omega) rfl).yl ?_
    refine QOps.st rfl rfl (Yv.conv int5 int3 rfl).yl ?_
    refine QOps.st rfl rfl (Yv.assign rfl).yl ?_
    refine QOps.nil ?_
    refine Run.seq ?_
    refine Run.ops ?_
    refine SOps.st rfl rfl (Yv.move rfl).yl ?_
    refine SOps.st rfl rfl (Yv.nilCheck rfl).yl ?_
    refine SOps.st rfl rfl (Yv.fieldAddr fld85_1 rfl).yl ?_
    refine SOps.st rfl rfl (Yv.loadB (i := 0) lay3 rfl rfl rfl rfl).yl ?_
    refine SOps.st rfl rfl (Yv.add rfl rfl (by omega)).yl ?_
    refine SOps.st rfl rfl (Yv.nilCheck rfl).yl ?_
    refine SOps.st rfl rfl (Yv.fieldAddr fld85_1 rfl).yl ?_
    refine SOps.one rfl (One.store (i := 0) (off := 1) (vs := [_]) (cs' := [_, _, _]) (H' := [_]) lay3 rfl rfl rfl rfl rfl rfl rfl rfl rfl rfl ?_)
    refine SOps.nil ?_
    refine Run.seq ?_
    refine Run.ops ?_
    refine SOps.st rfl rfl (Yv.move rfl).yl ?_
    refine SOps.st rfl rfl (Yv.move rfl).yl ?_
    refine SOps.st rfl rfl (Yv.nilCheck rfl).yl ?_
    refine SOps.st rfl rfl (Yv.fieldAddr fld85_2 rfl).yl ?_
    refine SOps.st rfl rfl (Yv.loadB (i := 0) lay83 rfl rfl rfl rfl).yl ?_
    refine SOps.st rfl rfl (Yv.mulW rfl rfl).yl ?_
    refine SOps.st rfl rfl (Yv.move rfl).yl ?_
    refine SOps.st rfl rfl (Yv.conv int3 int83 rfl).yl ?_
    refine SOps.st rfl rfl (Yv.addW rfl rfl).yl ?_
    refine SOps.st rfl rfl (Yv.addW rfl rfl).yl ?_
    refine SOps.st rfl rfl (Yv.nilCheck rfl).yl ?_
    refine SOps.st rfl rfl (Yv.fieldAddr fld85_2 rfl).yl ?_
    refine SOps.one rfl (One.store (i := 0) (off := 2) (vs := [_]) (cs' := [_, _, _]) (H' := [_]) lay83 rfl rfl rfl rfl rfl rfl rfl rfl rfl rfl ?_)
    refine SOps.nil ?_
    refine Run.seq ?_
    refine Run.seq ?_
    refine Run.quiet (fun _ => ⟨by kernel_rfl, by kernel_rfl⟩) ?_
    refine QOps.st rfl rfl (Yv.move rfl).yl ?_
    refine QOps.st rfl rfl (Yv.nilCheck rfl).yl ?_
    refine QOps.st rfl rfl (Yv.fieldAddr fld85_1 rfl).yl ?_
    refine QOps.st rfl rfl (Yv.loadB (i := 0) lay3 rfl rfl rfl rfl).yl ?_
    refine QOps.st rfl rfl (Yv.move rfl).yl ?_
    refine QOps.st rfl rfl (Yv.nilCheck rfl).yl ?_
    refine QOps.st rfl rfl (Yv.fieldAddr fld85_0 rfl).yl ?_
    refine QOps.st rfl rfl (Yv.loadB (i := 0) lay58 rfl rfl rfl rfl).yl ?_
    refine QOps.st rfl rfl (Yv.lenS el58s rfl).yl ?_
    refine QOps.st rfl rfl (Yv.leq rfl rfl).yl ?_
    refine QOps.nil ?_
    refine Run.cond rfl (fun hc2 => ?_) (fun hc2 => ?_)
    · try replace hc2 := of_decide_eq_true hc2
      refine Run.seq ?_
      refine Run.quiet (by intro h; cases h) ?_
      refine QOps.st rfl rfl (Yv.move rfl).yl ?_
      refine QOps.st rfl rfl (Yv.assign rfl).yl ?_
      refine QOps.nil ?_
      refine Run.ret ?_
      refine retQ.of (.inr rfl) rfl (.tmp rfl .nil) (fun w' hw' => ?_)
      exact ⟨_, _, _, rfl, (by rw [wrap_byte]; have := (nth xs at_.toNat).toNat_lt; omega), by omega, by omega, hw'.bel, hw'.ent _ (List.mem_of_getElem? (i := 0) rfl)⟩
    · try replace hc2 := of_decide_eq_false hc2
      refine Run.skip ?_
      refine Run.seq ?_
      refine Run.quiet (by intro h; cases h) ?_
      refine QOps.st rfl rfl (Yv.move rfl).yl ?_
      refine QOps.st rfl rfl (Yv.nilCheck rfl).yl ?_
      refine QOps.st rfl rfl (Yv.fieldAddr fld85_2 rfl).yl ?_
      refine QOps.st rfl rfl (Yv.loadB (i := 0) lay83 rfl rfl rfl rfl).yl ?_
      refine QOps.st rfl rfl (Yv.shr rfl rfl (by decide)).yl ?_
      refine QOps.st rfl rfl (Yv.and rfl rfl).yl ?_
      refine QOps.st rfl rfl (Yv.conv int83 int3 rfl).yl ?_
      refine QOps.st rfl rfl (Yv.assign rfl).yl ?_
      refine QOps.nil ?_
      refine Run.ret ?_
      refine retQ.of (.inr rfl) rfl (.tmp rfl .nil) (fun w' hw' => ?_)
      exact ⟨_, _, _, rfl, and255, by omega, by omega, hw'.bel, hw'.ent _ (List.mem_of_getElem? (i := 0) rfl)⟩
  · try replace hc1 := of_decide_eq_false hc1
    refine Run.skip ?_
    refine Run.seq ?_
    refine Run.ops ?_
    refine SOps.st rfl rfl (Yv.move rfl).yl ?_
    refine SOps.st rfl rfl (Yv.nilCheck rfl).yl ?_
    refine SOps.st rfl rfl (Yv.fieldAddr fld85_1 rfl).yl ?_
    refine SOps.st rfl rfl (Yv.loadB (i := 0) lay3 rfl rfl rfl rfl).yl ?_
    refine SOps.st rfl rfl (Yv.add rfl rfl (by omega)).yl ?_
    refine SOps.st rfl rfl (Yv.nilCheck rfl).yl ?_
    refine SOps.st rfl rfl (Yv.fieldAddr fld85_1 rfl).yl ?_
    refine SOps.one rfl (One.store (i := 0) (off := 1) (vs := [_]) (cs' := [_, _, _]) (H' := [_]) lay3 rfl rfl rfl rfl rfl rfl rfl rfl rfl rfl ?_)
    refine SOps.nil ?_
    refine Run.seq ?_
    refine Run.ops ?_
    refine SOps.st rfl rfl (Yv.move rfl).yl ?_
    refine SOps.st rfl rfl (Yv.move rfl).yl ?_
    refine SOps.st rfl rfl (Yv.nilCheck rfl).yl ?_
    refine SOps.st rfl rfl (Yv.fieldAddr fld85_2 rfl).yl ?_
    refine SOps.st rfl rfl (Yv.loadB (i := 0) lay83 rfl rfl rfl rfl).yl ?_
    refine SOps.st rfl rfl (Yv.mulW rfl rfl).yl ?_
    refine SOps.st rfl rfl (Yv.move rfl).yl ?_
    refine SOps.st rfl rfl (Yv.conv int3 int83 rfl).yl ?_
    refine SOps.st rfl rfl (Yv.addW rfl rfl).yl ?_
    refine SOps.st rfl rfl (Yv.addW rfl rfl).yl ?_
    refine SOps.st rfl rfl (Yv.nilCheck rfl).yl ?_
    refine SOps.st rfl rfl (Yv.fieldAddr fld85_2 rfl).yl ?_
    refine SOps.one rfl (One.store (i := 0) (off := 2) (vs := [_]) (cs' := [_, _, _]) (H' := [_]) lay83 rfl rfl rfl rfl rfl rfl rfl rfl rfl rfl ?_)
    refine SOps.nil ?_
    refine Run.seq ?_
    refine Run.seq ?_
    refine Run.quiet (fun _ => ⟨by kernel_rfl, by kernel_rfl⟩) ?_
    refine QOps.st rfl rfl (Yv.move rfl).yl ?_
    refine QOps.st rfl rfl (Yv.nilCheck rfl).yl ?_
    refine QOps.st rfl rfl (Yv.fieldAddr fld85_1 rfl).yl ?_
    refine QOps.st rfl rfl (Yv.loadB (i := 0) lay3 rfl rfl rfl rfl).yl ?_
    refine QOps.st rfl rfl (Yv.move rfl).yl ?_
    refine QOps.st rfl rfl (Yv.nilCheck rfl).yl ?_
    refine QOps.st rfl rfl (Yv.fieldAddr fld85_0 rfl).yl ?_
    refine QOps.st rfl rfl (Yv.loadB (i := 0) lay58 rfl rfl rfl rfl).yl ?_
    refine QOps.st rfl rfl (Yv.lenS el58s rfl).yl ?_
    refine QOps.st rfl rfl (Yv.leq rfl rfl).yl ?_
    refine QOps.nil ?_
    refine Run.cond rfl (fun hc3 => ?_) (fun hc3 => ?_)
    · try replace hc3 := of_decide_eq_true hc3
      refine Run.seq ?_
      refine Run.quiet (by intro h; cases h) ?_
      refine QOps.st rfl rfl (Yv.move rfl).yl ?_
      refine QOps.st rfl rfl (Yv.assign rfl).yl ?_
      refine QOps.nil ?_
      refine Run.ret ?_
      refine retQ.of (.inr rfl) rfl (.tmp rfl .nil) (fun w' hw' => ?_)
      exact ⟨_, _, _, rfl, (by omega), by omega, by omega, hw'.bel, hw'.ent _ (List.mem_of_getElem? (i := 0) rfl)⟩
    · try replace hc3 := of_decide_eq_false hc3
      refine Run.skip ?_
      refine Run.seq ?_
      refine Run.quiet (by intro h; cases h) ?_
      refine QOps.st rfl rfl (Yv.move rfl).yl ?_
      refine QOps.st rfl rfl (Yv.nilCheck rfl).yl ?_
      refine QOps.st rfl rfl (Yv.fieldAddr fld85_2 rfl).yl ?_
      refine QOps.st rfl rfl (Yv.loadB (i := 0) lay83 rfl rfl rfl rfl).yl ?_
      refine QOps.st rfl rfl (Yv.shr rfl rfl (by decide)).yl ?_
      refine QOps.st rfl rfl (Yv.and rfl rfl).yl ?_
      refine QOps.st rfl rfl (Yv.conv int83 int3 rfl).yl ?_
      refine QOps.st rfl rfl (Yv.assign rfl).yl ?_
      refine QOps.nil ?_
      refine Run.ret ?_
      refine retQ.of (.inr rfl) rfl (.tmp rfl .nil) (fun w' hw' => ?_)
      exact ⟨_, _, _, rfl, and255, by omega, by omega, hw'.bel, hw'.ent _ (List.mem_of_getElem? (i := 0) rfl)⟩
theorem tmod_in {x n : Int} (hx : 0 ≤ x) (hn : 0 < n) : 0 ≤ x.tmod n ∧ x.tmod n < n := ⟨Int.tmod_nonneg n hx, Int.tmod_lt_of_pos x hn⟩
theorem pick_spec {w : World} {g m c : Nat} {A : Option Addr} {xs : List UInt8} {at_ sd : Int} {n : Int} (hc : Cur w 85 g A m c xs at_ sd) (h0 : 0 ≤ at_) (h1 : at_ ≤ 8000000000000000000)  : Calls Try.prog 75 #[.pointer (some ⟨g, 0, none⟩), .int .i64 n] w (RetC w 85 g (.slice A m c) at_ 2 (fun (x : Int) => .int .i64 x) (fun x => 0 ≤ x ∧ (x < n ∨ n ≤ 1 ∧ x = 0))) := by
  refine calls_of_run (vs := [_, _]) (L := [(0, _), (1, _)]) (n := 20) (F := [g]) (H := [_]) Try.func75 rfl rfl rfl rfl (HOk.lend hc) ?_
  refine Run.seq ?_
  refine Run.quiet (by intro h; cases h) ?_
  refine QOps.st rfl rfl (Yv.assign rfl).yl ?_
  refine QOps.nil ?_
  refine Run.seq ?_
  refine Run.seq ?_
  refine Run.quiet (by intro h; cases h) ?_
  refine QOps.st rfl rfl (Yv.move rfl).yl ?_
  refine QOps.st rfl rfl (Yv.leq rfl rfl).yl ?_
  refine QOps.nil ?_
  refine Run.cond rfl (fun hc1 => ?_) (fun hc1 => ?_)
  · try replace hc1 := of_decide_eq_true hc1
    refine Run.seq ?_
    refine Run.quiet (by intro h; cases h) ?_
    refine QOps.st rfl rfl (Yv.assign rfl).yl ?_
    refine QOps.nil ?_
    refine Run.ret ?_
    refine retQ.of (.inr rfl) rfl (.tmp rfl .nil) (fun w' hw' => ?_)
    exact ⟨0, _, _, rfl, ⟨by omega, .inr ⟨hc1, rfl⟩⟩, by omega, by omega, hw'.bel, hw'.ent _ (List.mem_of_getElem? (i := 0) rfl)⟩
  · try replace hc1 := of_decide_eq_false hc1
    refine Run.skip ?_
    refine Run.seq ?_
    refine Run.ops ?_
    refine SOps.st rfl rfl (Yv.move rfl).yl ?_
    refine SOps.one rfl (One.callC (i := 0) (H' := fun _ _ => [_]) rfl callable82 (.cons rfl (.nil)) rfl (fun w' hw' => next_spec (Cur.lent hc (i := 0) rfl hw') (by omega) (by omega)) (fun _ _ => rfl) (fun x1 at1 sd1 ⟨hxl1, hxh1⟩ ha1 hb1 => ?_))
    refine SOps.st rfl rfl (Yv.assign rfl).yl ?_
    refine SOps.nil ?_
    refine Run.seq ?_
    refine Run.seq ?_
    refine Run.quiet (by intro h; cases h) ?_
    refine QOps.st rfl rfl (Yv.move rfl).yl ?_
    refine QOps.st rfl rfl (Yv.gtr rfl rfl).yl ?_
    refine QOps.nil ?_
    refine Run.cond rfl (fun hc2 => ?_) (fun hc2 => ?_)
    · try replace hc2 := of_decide_eq_true hc2
      refine Run.ops ?_
      refine SOps.st rfl rfl (Yv.move rfl).yl ?_
      refine SOps.st rfl rfl (Yv.mul rfl rfl (by omega)).yl ?_
      refine SOps.st rfl rfl (Yv.move rfl).yl ?_
      refine SOps.one rfl (One.callC (i := 0) (H' := fun _ _ => [_]) rfl callable82 (.cons rfl (.nil)) rfl (fun w' hw' => next_spec (Cur.lent hc (i := 0) rfl hw') (by omega) (by omega)) (fun _ _ => rfl) (fun x2 at2 sd2 ⟨hxl2, hxh2⟩ ha2 hb2 => ?_))
      refine SOps.st rfl rfl (Yv.add rfl rfl (by omega)).yl ?_
      refine SOps.st rfl rfl (Yv.assign rfl).yl ?_
      refine SOps.nil ?_
      refine Run.seq ?_
      refine Run.quiet (by intro h; cases h) ?_
      refine QOps.st rfl rfl (Yv.move rfl).yl ?_
      refine QOps.st rfl rfl (Yv.move rfl).yl ?_
      refine QOps.st rfl rfl (Yv.rem rfl rfl (by omega)).yl ?_
      refine QOps.st rfl rfl (Yv.assign rfl).yl ?_
      refine QOps.nil ?_
      refine Run.ret ?_
      refine retQ.of (.inr rfl) rfl (.tmp rfl .nil) (fun w' hw' => ?_)
      exact ⟨_, _, _, rfl, (by have := tmod_in (x := x1 * 256 + x2) (n := n) (by omega) (by omega); exact ⟨this.1, .inl this.2⟩), by omega, by omega, hw'.bel, hw'.ent _ (List.mem_of_getElem? (i := 0) rfl)⟩
    · try replace hc2 := of_decide_eq_false hc2
      refine Run.skip ?_
      refine Run.seq ?_
      refine Run.quiet (by intro h; cases h) ?_
      refine QOps.st rfl rfl (Yv.move rfl).yl ?_
      refine QOps.st rfl rfl (Yv.move rfl).yl ?_
      refine QOps.st rfl rfl (Yv.rem rfl rfl (by omega)).yl ?_
      refine QOps.st rfl rfl (Yv.assign rfl).yl ?_
      refine QOps.nil ?_
      refine Run.ret ?_
      refine retQ.of (.inr rfl) rfl (.tmp rfl .nil) (fun w' hw' => ?_)
      exact ⟨_, _, _, rfl, (by have := tmod_in (x := x1) (n := n) (by omega) (by omega); exact ⟨this.1, .inl this.2⟩), by omega, by omega, hw'.bel, hw'.ent _ (List.mem_of_getElem? (i := 0) rfl)⟩

theorem one_spec {w : World} {g m c : Nat} {A : Option Addr} {xs : List UInt8} {at_ sd : Int} {n : Int} (hc : Cur w 85 g A m c xs at_ sd) (h0 : 0 ≤ at_) (h1 : at_ ≤ 7000000000000000000)  : Calls Try.prog 81 #[.pointer (some ⟨g, 0, none⟩), .int .i64 n] w (RetC w 85 g (.slice A m c) at_ 2 (fun (x : Bool) => .bool x) (fun _ => True)) := by
  refine calls_of_run (vs := [_, _]) (L := [(0, _), (1, _)]) (n := 9) (F := [g]) (H := [_]) Try.func81 rfl rfl rfl rfl (HOk.lend hc) ?_
  refine Run.seq ?_
  refine Run.quiet (by intro h; cases h) ?_
  refine QOps.st rfl rfl (Yv.assign rfl).yl ?_
  refine QOps.nil ?_
  refine Run.seq ?_
  refine Run.ops ?_
  refine SOps.st rfl rfl (Yv.move rfl).yl ?_
  refine SOps.st rfl rfl (Yv.move rfl).yl ?_
  refine SOps.one rfl (One.callC (i := 0) (H' := fun _ _ => [_]) rfl callable75 (.cons rfl (.cons rfl (.nil))) rfl (fun w' hw' => pick_spec (Cur.lent hc (i := 0) rfl hw') (by omega) (by omega)) (fun _ _ => rfl) (fun x1 at1 sd1 ⟨hxl1, hxh1⟩ ha1 hb1 => ?_))
  refine SOps.st rfl rfl (Yv.eqI rfl rfl).yl ?_
  refine SOps.st rfl rfl (Yv.assign rfl).yl ?_
  refine SOps.nil ?_
  refine Run.ret ?_
  refine retQ.of (.inr rfl) rfl (.tmp rfl .nil) (fun w' hw' => ?_)
  exact ⟨_, _, _, rfl, trivial, by omega, by omega, hw'.bel, hw'.ent _ (List.mem_of_getElem? (i := 0) rfl)⟩

theorem nth_mem {α : Type} [Inhabited α] {l : List α} {k : Nat} (h : k < l.length) : nth l k ∈ l := List.mem_of_getElem? (nth_get h)
theorem among_spec {w : World} {g m c : Nat} {A : Option Addr} {xs : List UInt8} {at_ sd : Int} {A2 : Option Addr} {k c2 : Nat} {l : List Int} (hc : Cur w 85 g A m c xs at_ sd) (h0 : 0 ≤ at_) (h1 : at_ ≤ 7000000000000000000) (hl : Sl w 1 A2 k c2 (l.flatMap intC)) (hk : l.length = k) (hk0 : 0 < k) (hkm : k ≤ 1048576) (hne2 : 0 < k → (adr A2).block ≠ g) : Calls Try.prog 73 #[.pointer (some ⟨g, 0, none⟩), .slice A2 k c2] w (RetC w 85 g (.slice A m c) at_ 2 (fun (x : Int) => .int .i64 x) (fun x => x ∈ l)) := by
  refine calls_of_run (vs := [_, _]) (L := [(0, _), (1, _)]) (n := 12) (F := [g]) (H := [_]) Try.func73 rfl rfl rfl rfl (HOk.lend hc) ?_
  refine Run.seq ?_
  refine Run.quiet (by intro h; cases h) ?_
  refine QOps.st rfl rfl (Yv.assign rfl).yl ?_
  refine QOps.nil ?_
  refine Run.seq ?_
  refine Run.ops ?_
  refine SOps.st rfl rfl (Yv.move rfl).yl ?_
  refine SOps.st rfl rfl (Yv.move rfl).yl ?_
  refine SOps.st rfl rfl (Yv.move rfl).yl ?_
  refine SOps.st rfl rfl (Yv.lenS el89s rfl).yl ?_
  refine SOps.one rfl (One.callC (i := 0) (H' := fun _ _ => [_]) rfl callable75 (.cons rfl (.cons rfl (.nil))) rfl (fun w' hw' => pick_spec (Cur.lent hc (i := 0) rfl hw') (by omega) (by omega)) (fun _ _ => rfl) (fun x1 at1 sd1 ⟨hxl1, hxh1⟩ ha1 hb1 => ?_))
  refine SOps.st rfl rfl (Yv.indexAddr x1.toNat el89 rfl rfl (by omega) (Rd.argN hl (fun h => by simpa using hne2 h)) (by omega)).yl ?_
  refine SOps.st rfl rfl (Yv.loadE lay3 rfl intC_len (Rd.argN hl (fun h => by simpa using hne2 h)) (by omega) rfl).yl ?_
  refine SOps.st rfl rfl (Yv.assign rfl).yl ?_
  refine SOps.nil ?_
  refine Run.ret ?_
  refine retQ.of (.inr rfl) rfl (.tmp rfl .nil) (fun w' hw' => ?_)
  exact ⟨_, _, _, rfl, (nth_mem (by omega)), by omega, by omega, hw'.bel, hw'.ent _ (List.mem_of_getElem? (i := 0) rfl)⟩


theorem fix_spec {w : World} {g m c : Nat} {A : Option Addr} {xs : List UInt8} {at_ sd : Int} {mn : Int} (hc : Cur w 85 g A m c xs at_ sd) (h0 : 0 ≤ at_) (h1 : at_ ≤ 6000000000000000000)  : Calls Try.prog 76 #[.pointer (some ⟨g, 0, none⟩), .int .i64 mn] w (RetC w 85 g (.slice A m c) at_ 8 (fun (x : Fix) => .agg x.enc.toArray) (fun _ => True)) := by
  refine calls_of_run (vs := [_, _]) (L := [(0, _), (1, _)]) (n := 30) (F := [g]) (H := [_]) Try.func76 rfl rfl rfl rfl (HOk.lend hc) ?_
  refine Run.seq ?_
  refine Run.ops ?_
  refine SOps.one rfl (One.alloc rfl zero49 (fun b1 => ?_))
  refine SOps.nil ?_
  refine Run.seq ?_
  refine Run.ops ?_
  refine SOps.st rfl rfl (Yv.move rfl).yl ?_
  refine SOps.st rfl rfl (Yv.move rfl).yl ?_
  refine SOps.one rfl (One.callC (i := 1) (H' := fun _ _ => [_, _]) rfl callable75 (.cons rfl (.cons rfl (.nil))) rfl (fun w' hw' => pick_spec (Cur.lent hc (i := 1) rfl hw') (by omega) (by omega)) (fun _ _ => rfl) (fun x1 at1 sd1 ⟨hxl1, hxh1⟩ ha1 hb1 => ?_))
  refine SOps.st rfl rfl (Yv.mul rfl rfl (by omega)).yl ?_
  refine SOps.st rfl rfl (Yv.add rfl rfl (by omega)).yl ?_
  refine SOps.st rfl rfl (Yv.move rfl).yl ?_
  refine SOps.one rfl (One.buildSliceG (pv := [(0, _), (1, _), (2, _), (3, _), (4, _)]) (cs := [_, _, _, _, _]) (fun l => match l with | [a0_0, a1_0, a2_0, a3_0, a4_0] => [a0_0, a1_0, a2_0, a3_0, a4_0] | _ => []) rfl el89 (.cons rfl (.cons rfl (.cons rfl (.cons rfl (.cons rfl (.nil)))))) rfl rfl (by kernel_rfl) rfl rfl (fun b2 => ?_))
  refine SOps.one rfl (One.callC (i := 2) (H' := fun _ _ => [_, _, _]) rfl callable73 (.cons rfl (.cons rfl (.nil))) rfl (fun w' hw' => among_spec (Cur.lent hc (i := 2) rfl hw') (by omega) (by omega) (l := [0, 0, 10, 50, 100]) ((Rd.row (i := 0) rfl) w' hw') (by simp; try omega) (by first | omega | simp) (by first | omega | simp) (fun hm => HOk.rowNe hw' (i := 2) (j := 0) rfl rfl rfl (by first | exact hm | omega))) (fun _ _ => rfl) (fun x2 at2 sd2 hx2 ha2 hb2 => ?_))
  refine SOps.st rfl rfl (Yv.buildG (pv := [(0, _), (1, _), (2, _)]) (cs := [_, _, _]) (fun l => match l with | [a0_0, a1_0, a2_0] => [a0_0, a1_0, a2_0] | _ => []) (.cons rfl (.cons rfl (.cons rfl (.nil)))) rfl rfl (by kernel_rfl)).yl ?_
  refine SOps.one rfl (One.alloc rfl zero49 (fun b3 => ?_))
  refine SOps.one rfl (One.store (i := 0) (off := 0) (vs := [_, _, _]) (cs' := [_, _, _]) (H' := [_, _, _, _]) lay49 rfl rfl rfl rfl rfl rfl rfl rfl rfl rfl ?_)
  refine SOps.nil ?_
  refine Run.seq ?_
  refine Run.seq ?_
  refine Run.ops ?_
  refine SOps.st rfl rfl (Yv.move rfl).yl ?_
  refine SOps.one rfl (One.callC (i := 3) (H' := fun _ _ => [_, _, _, _]) rfl callable75 (.cons rfl (.cons rfl (.nil))) rfl (fun w' hw' => pick_spec (Cur.lent hc (i := 3) rfl hw') (by omega) (by omega)) (fun _ _ => rfl) (fun x3 at3 sd3 ⟨hxl3, hxh3⟩ ha3 hb3 => ?_))
  refine SOps.nil ?_
  refine Run.block ?_
  refine Run.seq ?_
  refine Run.quiet (by intro h; cases h) ?_
  refine QOps.st rfl rfl (Yv.eqI rfl rfl).yl ?_
  refine QOps.st rfl rfl (Yv.assign rfl).yl ?_
  refine QOps.nil ?_
  refine Run.cond rfl (fun hc1 => ?_) (fun hc1 => ?_)
  · try replace hc1 := of_decide_eq_true hc1
    refine Run.ops ?_
    refine SOps.st rfl rfl (Yv.move rfl).yl ?_
    refine SOps.one rfl (One.buildSliceG (pv := [(0, _), (1, _), (2, _)]) (cs := [_, _, _]) (fun l => match l with | [a0_0, a1_0, a2_0] => [a0_0, a1_0, a2_0] | _ => []) rfl el89 (.cons rfl (.cons rfl (.cons rfl (.nil)))) rfl rfl (by kernel_rfl) rfl rfl (fun b4 => ?_))
    refine SOps.one rfl (One.callC (i := 4) (H' := fun _ _ => [_, _, _, _, _]) rfl callable73 (.cons rfl (.cons rfl (.nil))) rfl (fun w' hw' => among_spec (Cur.lent hc (i := 4) rfl hw') (by omega) (by omega) (l := [(-1), 100000, 100001]) ((Rd.row (i := 0) rfl) w' hw') (by simp; try omega) (by first | omega | simp) (by first | omega | simp) (fun hm => HOk.rowNe hw' (i := 4) (j := 0) rfl rfl rfl (by first | exact hm | omega))) (fun _ _ => rfl) (fun x4 at4 sd4 hx4 ha4 hb4 => ?_))
    refine SOps.st rfl rfl (Yv.fieldAddr fld49_1 rfl).yl ?_
    refine SOps.one rfl (One.store (i := 1) (off := 1) (vs := [_]) (cs' := [_, _, _]) (H' := [_, _, _, _, _]) lay3 rfl rfl rfl rfl rfl rfl rfl rfl rfl rfl ?_)
    refine SOps.nil ?_
    refine Run.seq ?_
    refine Run.ops ?_
    refine SOps.st rfl rfl (Yv.loadBs (i := 1) lay49 rfl rfl rfl rfl).yl ?_
    refine SOps.one rfl (One.store (i := 3) (off := 0) (vs := [_, _, _]) (cs' := [_, _, _]) (H' := [_, _, _, _, _]) lay49 rfl rfl rfl rfl rfl rfl rfl rfl rfl rfl ?_)
    refine SOps.nil ?_
    refine Run.ret ?_
    refine retQ.of (.inr rfl) rfl (.cells (i := 3) rfl lay49 rfl rfl .nil) (fun w' hw' => ?_)
    exact ⟨⟨mn, x4, x2⟩, _, _, rfl, trivial, by omega, by omega, hw'.bel, hw'.ent _ (List.mem_of_getElem? (i := 4) rfl)⟩
  · try replace hc1 := of_decide_eq_false hc1
    refine Run.seq ?_
    refine Run.quiet (by intro h; cases h) ?_
    refine QOps.st rfl rfl (Yv.eqI rfl rfl).yl ?_
    refine QOps.st rfl rfl (Yv.assign rfl).yl ?_
    refine QOps.nil ?_
    refine Run.cond rfl (fun hc2 => ?_) (fun hc2 => ?_)
    · try replace hc2 := of_decide_eq_true hc2
      refine Run.ops ?_
      refine SOps.st rfl rfl (Yv.move rfl).yl ?_
      refine SOps.one rfl (One.buildSliceG (pv := [(0, _), (1, _), (2, _)]) (cs := [_, _, _]) (fun l => match l with | [a0_0, a1_0, a2_0] => [a0_0, a1_0, a2_0] | _ => []) rfl el89 (.cons rfl (.cons rfl (.cons rfl (.nil)))) rfl rfl (by kernel_rfl) rfl rfl (fun b5 => ?_))
      refine SOps.one rfl (One.callC (i := 4) (H' := fun _ _ => [_, _, _, _, _]) rfl callable73 (.cons rfl (.cons rfl (.nil))) rfl (fun w' hw' => among_spec (Cur.lent hc (i := 4) rfl hw') (by omega) (by omega) (l := [(-1), 1000, 1001]) ((Rd.row (i := 0) rfl) w' hw') (by simp; try omega) (by first | omega | simp) (by first | omega | simp) (fun hm => HOk.rowNe hw' (i := 4) (j := 0) rfl rfl rfl (by first | exact hm | omega))) (fun _ _ => rfl) (fun x5 at5 sd5 hx5 ha5 hb5 => ?_))
      refine SOps.st rfl rfl (Yv.fieldAddr fld49_2 rfl).yl ?_
      refine SOps.one rfl (One.store (i := 1) (off := 2) (vs := [_]) (cs' := [_, _, _]) (H' := [_, _, _, _, _]) lay3 rfl rfl rfl rfl rfl rfl rfl rfl rfl rfl ?_)
      refine SOps.nil ?_
      refine Run.seq ?_
      refine Run.ops ?_
      refine SOps.st rfl rfl (Yv.loadBs (i := 1) lay49 rfl rfl rfl rfl).yl ?_
      refine SOps.one rfl (One.store (i := 3) (off := 0) (vs := [_, _, _]) (cs' := [_, _, _]) (H' := [_, _, _, _, _]) lay49 rfl rfl rfl rfl rfl rfl rfl rfl rfl rfl ?_)
      refine SOps.nil ?_
      refine Run.ret ?_
      refine retQ.of (.inr rfl) rfl (.cells (i := 3) rfl lay49 rfl rfl .nil) (fun w' hw' => ?_)
      exact ⟨⟨mn, (1000 + (x1 * 50)), x5⟩, _, _, rfl, trivial, by omega, by omega, hw'.bel, hw'.ent _ (List.mem_of_getElem? (i := 4) rfl)⟩
    · try replace hc2 := of_decide_eq_false hc2
      refine Run.skip ?_
      refine Run.seq ?_
      refine Run.ops ?_
      refine SOps.st rfl rfl (Yv.loadBs (i := 0) lay49 rfl rfl rfl rfl).yl ?_
      refine SOps.one rfl (One.store (i := 2) (off := 0) (vs := [_, _, _]) (cs' := [_, _, _]) (H' := [_, _, _, _]) lay49 rfl rfl rfl rfl rfl rfl rfl rfl rfl rfl ?_)
      refine SOps.nil ?_
      refine Run.ret ?_
      refine retQ.of (.inr rfl) rfl (.cells (i := 2) rfl lay49 rfl rfl .nil) (fun w' hw' => ?_)
      exact ⟨⟨mn, (1000 + (x1 * 50)), x2⟩, _, _, rfl, trivial, by omega, by omega, hw'.bel, hw'.ent _ (List.mem_of_getElem? (i := 3) rfl)⟩

theorem pace_spec {w : World} {g m c : Nat} {A : Option Addr} {xs : List UInt8} {at_ sd : Int}  (hc : Cur w 85 g A m c xs at_ sd) (h0 : 0 ≤ at_) (h1 : at_ ≤ 6000000000000000000)  : Calls Try.prog 72 #[.pointer (some ⟨g, 0, none⟩)] w (RetC w 85 g (.slice A m c) at_ 2 (fun (x : Int) => .int .i64 x) (fun _ => True)) := by
  refine calls_of_run (vs := [_]) (L := [(0, _)]) (n := 6) (F := [g]) (H := [_]) Try.func72 rfl rfl rfl rfl (HOk.lend hc) ?_
  refine Run.seq ?_
  refine Run.quiet (by intro h; cases h) ?_
  refine QOps.st rfl rfl (Yv.assign rfl).yl ?_
  refine QOps.nil ?_
  refine Run.seq ?_
  refine Run.ops ?_
  refine SOps.st rfl rfl (Yv.move rfl).yl ?_
  refine SOps.one rfl (One.buildSliceG (pv := [(0, _), (1, _), (2, _), (3, _), (4, _), (5, _), (6, _), (7, _), (8, _), (9, _)]) (cs := [_, _, _, _, _, _, _, _, _, _]) (fun l => match l with | [a0_0, a1_0, a2_0, a3_0, a4_0, a5_0, a6_0, a7_0, a8_0, a9_0] => [a0_0, a1_0, a2_0, a3_0, a4_0, a5_0, a6_0, a7_0, a8_0, a9_0] | _ => []) rfl el89 (.cons rfl (.cons rfl (.cons rfl (.cons rfl (.cons rfl (.cons rfl (.cons rfl (.cons rfl (.cons rfl (.cons rfl (.nil))))))))))) rfl rfl (by kernel_rfl) rfl rfl (fun b1 => ?_))
  refine SOps.one rfl (One.callC (i := 1) (H' := fun _ _ => [_, _]) rfl callable73 (.cons rfl (.cons rfl (.nil))) rfl (fun w' hw' => among_spec (Cur.lent hc (i := 1) rfl hw') (by omega) (by omega) (l := [0, 10, 25, 50, 100, 200, 500, 501, (-1), 75]) ((Rd.row (i := 0) rfl) w' hw') (by simp; try omega) (by first | omega | simp) (by first | omega | simp) (fun hm => HOk.rowNe hw' (i := 1) (j := 0) rfl rfl rfl (by first | exact hm | omega))) (fun _ _ => rfl) (fun x1 at1 sd1 hx1 ha1 hb1 => ?_))
  refine SOps.st rfl rfl (Yv.assign rfl).yl ?_
  refine SOps.nil ?_
  refine Run.ret ?_
  refine retQ.of (.inr rfl) rfl (.tmp rfl .nil) (fun w' hw' => ?_)
  exact ⟨_, _, _, rfl, trivial, by omega, by omega, hw'.bel, hw'.ent _ (List.mem_of_getElem? (i := 1) rfl)⟩

theorem fixes_spec {w : World} {g m c : Nat} {A : Option Addr} {xs : List UInt8} {at_ sd : Int} (hc : Cur w 85 g A m c xs at_ sd) (h0 : 0 ≤ at_) (h1 : at_ ≤ 5000000000000000000) :
    Calls Try.prog 71 #[.pointer (some ⟨g, 0, none⟩)] w (RetCR w 85 g (.slice A m c) at_ 300 49 3 Fix.enc (fun (l : List Fix) => l) (fun _ v => v) (fun l => l.length ≤ 20)) := by
  refine calls_of_run (vs := [_]) (L := [(0, _)]) (n := 81) (F := [g]) (H := [_]) Try.func71 rfl rfl rfl rfl (HOk.lend hc) ?_
  refine Run.seq ?_
  refine Run.quiet (by intro h; cases h) ?_
  refine QOps.st rfl rfl (Yv.assign rfl).yl ?_
  refine QOps.nil ?_
  refine Run.seq ?_
  refine Run.ops ?_
  refine SOps.one rfl (One.buildSliceG (pv := []) (cs := []) (fun _ => []) rfl el25 .nil rfl rfl (by kernel_rfl) rfl rfl (fun b1 => ?_))
  refine SOps.st rfl rfl (Yv.assign rfl).yl ?_
  refine SOps.nil ?_
  refine Run.seq ?_
  refine Run.ops ?_
  refine SOps.st rfl rfl (Yv.move rfl).yl ?_
  refine SOps.one rfl (One.callC (i := 1) (H' := fun _ _ => [_, _]) rfl callable75 (.cons rfl (.cons rfl (.nil))) rfl (fun w' hw' => pick_spec (Cur.lent hc (i := 1) rfl hw') (by omega) (by omega)) (fun _ _ => rfl) (fun x1 at1 sd1 ⟨hxl1, hxh1⟩ ha1 hb1 => ?_))
  refine SOps.st rfl rfl (Yv.assign rfl).yl ?_
  refine SOps.nil ?_
  refine Run.seq ?_
  refine Run.seq ?_
  refine Run.ops ?_
  refine SOps.st rfl rfl (Yv.move rfl).yl ?_
  refine SOps.one rfl (One.callC (i := 1) (H' := fun _ _ => [_, _]) rfl callable75 (.cons rfl (.cons rfl (.nil))) rfl (fun w' hw' => pick_spec (Cur.lent hc (i := 1) rfl hw') (by omega) (by omega)) (fun _ _ => rfl) (fun x2 at2 sd2 ⟨hxl2, hxh2⟩ ha2 hb2 => ?_))
  refine SOps.st rfl rfl (Yv.add rfl rfl (by omega)).yl ?_
  refine SOps.st rfl rfl (Yv.assign rfl).yl ?_
  refine SOps.nil ?_
  refine Run.block ?_
  refine Run.loop (S := Int × Int × Nat × List Fix × Option Addr × Nat × Int × Int) (fun s => match s with | (z, mn, nn, o, A2, c2, a2, s2) => 0 ≤ z ∧ z ≤ 5 ∧ nn ≤ 5 - z ∧ 0 ≤ mn ∧ mn ≤ 100 - 10 * z ∧ at_ ≤ a2 ∧ a2 ≤ at_ + 4 + 14 * (5 - z) ∧ o.length = nn) (fun s => match s with | (z, mn, nn, o, A2, c2, a2, s2) => [(0, .pointer (some ⟨g, 0, none⟩)), (3, .slice A2 nn c2), (4, .int .i64 mn), (5, .int .i64 z)]) (fun s => match s with | (z, mn, nn, o, A2, c2, a2, s2) => [.row A2 c2 49 3 nn (o.flatMap Fix.enc), .blk g 85 [.slice A m c, .int .i64 a2, .int .u64 s2]]) (fun s => match s with | (z, mn, nn, o, A2, c2, a2, s2) => z.toNat) (_, _, 0, [], some ⟨b1, 0, none⟩, 0, _, _) ?_ (SubE.cons rfl (SubE.cons rfl (SubE.cons rfl (SubE.cons rfl (SubE.nil _))))) (List.Sublist.refl _) ?_
  · refine ⟨by omega, by omega, by omega, by omega, by omega, by omega, by omega, rfl⟩
  · rintro ⟨z, mn, nn, o, A2, c2, a2, s2⟩ ⟨hz0, hz7, hn10, hm0, hm1, ha2l, ha2h, hnn⟩
    show Run _ _ _ _ _ [(0, .pointer (some ⟨g, 0, none⟩)), (3, .slice A2 nn c2), (4, .int .i64 mn), (5, .int .i64 z)] [.row A2 c2 49 3 nn (o.flatMap Fix.enc), .blk g 85 [.slice A m c, .int .i64 a2, .int .u64 s2]] _
    subst hnn
    refine Run.seq ?_
    refine Run.seq ?_
    refine Run.quiet (by intro h; cases h) ?_
    refine QOps.st rfl rfl (Yv.move rfl).yl ?_
    refine QOps.st rfl rfl (Yv.gtr rfl rfl).yl ?_
    refine QOps.nil ?_
    refine Run.cond rfl (fun hc1 => ?_) (fun hc1 => ?_)
    · try replace hc1 := of_decide_eq_true hc1
      refine Run.skip ?_
      refine Run.seq ?_
      refine Run.block ?_
      refine Run.seq ?_
      refine Run.ops ?_
      refine SOps.st rfl rfl (Yv.move rfl).yl ?_
      refine SOps.st rfl rfl (Yv.move rfl).yl ?_
      refine SOps.one rfl (One.callC (i := 1) (H' := fun _ _ => [_, _]) rfl callable76 (.cons rfl (.cons rfl (.nil))) rfl (fun w' hw' => fix_spec (Cur.lent hc (i := 1) rfl hw') (by omega) (by omega)) (fun _ _ => rfl) (fun x3 at3 sd3 _ ha3 hb3 => ?_))
      refine SOps.one rfl (One.alloc rfl zero49 (fun b2 => ?_))
      refine SOps.one rfl (One.store (i := 0) (off := 0) (vs := [_, _, _]) (cs' := [_, _, _]) (H' := [_, _, _]) lay49 rfl rfl rfl rfl rfl rfl rfl rfl rfl rfl ?_)
      refine SOps.nil ?_
      refine Run.seq ?_
      refine Run.seq ?_
      refine Run.ops ?_
      refine SOps.st rfl rfl (Yv.move rfl).yl ?_
      refine SOps.st rfl rfl (Yv.lenS el25s rfl).yl ?_
      refine SOps.st rfl rfl (Yv.gtr rfl rfl).yl ?_
      refine SOps.st rfl rfl (Yv.move rfl).yl ?_
      refine SOps.split (fun hs1 => ?_) (fun hs1 => ?_)
      · try replace hs1 := of_decide_eq_true hs1
        refine SOps.st rfl rfl (Yv.move rfl).yl ?_
        refine SOps.one rfl (One.callC (i := 2) (H' := fun _ _ => [_, _, _]) rfl callable81 (.cons rfl (.cons rfl (.nil))) rfl (fun w' hw' => one_spec (Cur.lent hc (i := 2) rfl hw') (by omega) (by omega)) (fun _ _ => rfl) (fun x4 at4 sd4 _ ha4 hb4 => ?_))
        refine SOps.st rfl rfl (Yv.pickT rfl rfl).yl ?_
        refine SOps.nil ?_
        refine Run.cond rfl (fun hc2 => ?_) (fun hc2 => ?_)
        · try replace hc2 := of_decide_eq_true hc2
          refine Run.draws (fun H => ((H).eraseIdx 2).eraseIdx 0) (m := 15) (listed := #[false, false, false, false, false, false, false, false, false, false, false, false, false, false, false]) (by kernel_rfl) rfl rfl ?_
          refine DOps.take (listed' := #[true, false, false, false, false, false, false, false, false, false, false, false, false, false, false]) 0 rfl (by kernel_rfl) rfl (List.Sublist.cons _ (List.Sublist.cons_cons _ (List.nil_sublist _))) rfl rfl (Yv.move rfl) ?_
          refine DOps.take (listed' := #[true, true, false, false, false, false, false, false, false, false, false, false, false, false, false]) 1 rfl (by kernel_rfl) rfl (List.Sublist.cons _ (List.Sublist.cons_cons _ (List.nil_sublist _))) rfl rfl (Yv.move rfl) ?_
          refine DOps.take (listed' := #[true, true, true, false, false, false, false, false, false, false, false, false, false, false, false]) 2 rfl (by kernel_rfl) rfl (List.Sublist.cons _ (List.Sublist.cons_cons _ (List.nil_sublist _))) rfl rfl (Yv.lenS el25s rfl) ?_
          refine DOps.take (listed' := #[true, true, true, true, false, false, false, false, false, false, false, false, false, false, false]) 3 rfl (by kernel_rfl) rfl (List.Sublist.cons _ (List.Sublist.cons_cons _ (List.nil_sublist _))) rfl rfl (Yv.sub rfl rfl (by omega)) ?_
          refine DOps.take (listed' := #[true, true, true, true, true, false, false, false, false, false, false, false, false, false, false]) 4 rfl (by kernel_rfl) rfl (List.Sublist.cons _ (List.Sublist.cons_cons _ (List.nil_sublist _))) rfl rfl (Yv.indexAddr (o.length - 1) el25 rfl rfl (by omega) (Rd.row (i := 0) rfl) (by omega)) ?_
          refine DOps.take (listed' := #[true, true, true, true, true, true, false, false, false, false, false, false, false, false, false]) 5 rfl (by kernel_rfl) rfl (List.Sublist.cons _ (List.Sublist.cons_cons _ (List.nil_sublist _))) rfl rfl (Yv.fieldAddr fld49_1 rfl) ?_
          refine DOps.take (listed' := #[true, true, true, true, true, true, true, false, false, false, false, false, false, false, false]) 6 rfl (by kernel_rfl) rfl (List.Sublist.cons _ (List.Sublist.cons_cons _ (List.nil_sublist _))) rfl rfl (Yv.loadF lay3 rfl Fix.len (Rd.row (i := 0) rfl) (by first | omega | (simp; omega)) (by decide) rfl) ?_
          refine DOps.take (listed' := #[true, true, true, true, true, true, true, true, false, false, false, false, false, false, false]) 7 rfl (by kernel_rfl) rfl (List.Sublist.cons _ (List.Sublist.cons_cons _ (List.nil_sublist _))) rfl rfl (Yv.move rfl) ?_
          refine DOps.only (listed' := #[true, true, true, true, true, true, true, true, true, false, false, false, false, false, false]) 8 rfl (by kernel_rfl) rfl rfl ?_
          refine One.callC (i := 2) (H' := fun _ _ => [_, _, _]) rfl callable75 (.cons rfl (.cons rfl (.nil))) rfl (fun w' hw' => pick_spec (Cur.lent hc (i := 2) rfl hw') (by omega) (by omega)) (fun _ _ => rfl) (fun x5 at5 sd5 ⟨hxl5, hxh5⟩ ha5 hb5 => ?_)
          refine ⟨(List.Sublist.cons _ (List.Sublist.cons_cons _ (List.nil_sublist _))), ?_⟩
          refine DOps.take (listed' := #[true, true, true, true, true, true, true, true, true, true, false, false, false, false, false]) 9 rfl (by kernel_rfl) rfl (List.Sublist.cons _ (List.Sublist.cons_cons _ (List.nil_sublist _))) rfl rfl (Yv.mul rfl rfl (by omega)) ?_
          refine DOps.take (listed' := #[true, true, true, true, true, true, true, true, true, true, true, false, false, false, false]) 10 rfl (by kernel_rfl) rfl (List.Sublist.cons _ (List.Sublist.cons_cons _ (List.nil_sublist _))) rfl rfl (Yv.addW rfl rfl) ?_
          refine DOps.take (listed' := #[true, true, true, true, true, true, true, true, true, true, true, true, false, false, false]) 11 rfl (by kernel_rfl) rfl (List.Sublist.cons _ (List.Sublist.cons_cons _ (List.nil_sublist _))) rfl rfl (Yv.subW rfl rfl) ?_
          refine DOps.only (listed' := #[true, true, true, true, true, true, true, true, true, true, true, true, true, false, false]) 12 rfl (by kernel_rfl) rfl rfl ?_
          refine One.st rfl (Yl.call callable68 (.cons rfl (.cons rfl (.nil))) (fun w' hw' => l1Most_spec)) ?_
          refine ⟨(List.Sublist.cons _ (List.Sublist.cons_cons _ (List.nil_sublist _))), ?_⟩
          refine DOps.take (listed' := #[true, true, true, true, true, true, true, true, true, true, true, true, true, true, false]) 13 rfl (by kernel_rfl) rfl (List.Sublist.cons _ (List.Sublist.cons_cons _ (List.nil_sublist _))) rfl rfl (Yv.fieldAddr fld49_1 rfl) ?_
          refine DOps.only (listed' := #[true, true, true, true, true, true, true, true, true, true, true, true, true, true, true]) 14 rfl (by kernel_rfl) rfl rfl ?_
          refine One.store (i := 0) (off := 1) (vs := [_]) (cs' := [_, _, _]) (H' := [_, _, _]) lay3 rfl rfl rfl rfl rfl rfl rfl rfl rfl rfl ?_
          refine ⟨(List.Sublist.cons _ (List.Sublist.cons_cons _ (List.nil_sublist _))), ?_⟩
          refine DOps.done (by kernel_rfl) ?_
          refine Run.seq ?_
          refine Run.ops ?_
          refine SOps.st rfl rfl (Yv.move rfl).yl ?_
          refine SOps.st rfl rfl (Yv.loadBs (i := 0) lay49 rfl rfl rfl rfl).yl ?_
          refine SOps.one rfl (One.buildSliceG (pv := [(0, _)]) (cs := [_, _, _]) (fun l => match l with | [.agg ⟨[a0_0, a0_1, a0_2]⟩] => [a0_0, a0_1, a0_2] | _ => []) rfl el25 (.cons rfl (.nil)) rfl rfl (by kernel_rfl) rfl rfl (fun b3 => ?_))
          refine SOps.one rfl (One.append (enc := Fix.enc) (l := o) (l2 := [(⟨x3.minute, max 0 (IntKind.i64.wrap (IntKind.i64.wrap ((nth o (o.length - 1)).place + x5 * 25) - 100)), x3.error⟩ : Fix)]) (m' := (o.length + 1)) (i := 2) (H' := fun A c => [_, _, _, _]) rfl el25 zero49 rfl (by decide) rfl rfl rfl (Rd.row (i := 0) rfl) (fun _ => rfl) rfl (by omega) (by omega) (fun _ _ => rfl) (fun A1 c1 => ?_))
          refine SOps.st rfl rfl (Yv.assign rfl).yl ?_
          refine SOps.nil ?_
          refine Run.ops ?_
          refine SOps.st rfl rfl (Yv.move rfl).yl ?_
          refine SOps.st rfl rfl (Yv.add rfl rfl (by omega)).yl ?_
          refine SOps.st rfl rfl (Yv.move rfl).yl ?_
          refine SOps.one rfl (One.callC (i := 3) (H' := fun _ _ => [_, _, _, _]) rfl callable75 (.cons rfl (.cons rfl (.nil))) rfl (fun w' hw' => pick_spec (Cur.lent hc (i := 3) rfl hw') (by omega) (by omega)) (fun _ _ => rfl) (fun x6 at6 sd6 ⟨hxl6, hxh6⟩ ha6 hb6 => ?_))
          refine SOps.st rfl rfl (Yv.add rfl rfl (by omega)).yl ?_
          refine SOps.st rfl rfl (Yv.assign rfl).yl ?_
          refine SOps.nil ?_
          refine Run.quiet (by intro h; cases h) ?_
          refine QOps.st rfl rfl (Yv.move rfl).yl ?_
          refine QOps.st rfl rfl (Yv.sub rfl rfl (by omega)).yl ?_
          refine QOps.st rfl rfl (Yv.assign rfl).yl ?_
          refine QOps.nil ?_
          refine ⟨(z - 1, _, _, _, _, _, _, _), ?_, ?_, (SubE.cons rfl (SubE.cons rfl (SubE.cons rfl (SubE.cons rfl (SubE.nil _))))), (List.Sublist.cons _ (List.Sublist.cons _ (List.Sublist.refl _)))⟩
          · refine ⟨by omega, by omega, ?_, by omega, by omega, by omega, by omega, ?_⟩ <;> first | rfl | omega | (simp; done) | (simp; omega)
          · first | omega | (dsimp only; omega)
        · try replace hc2 := of_decide_eq_false hc2
          refine Run.skip ?_
          refine Run.seq ?_
          refine Run.ops ?_
          refine SOps.st rfl rfl (Yv.move rfl).yl ?_
          refine SOps.st rfl rfl (Yv.loadBs (i := 0) lay49 rfl rfl rfl rfl).yl ?_
          refine SOps.one rfl (One.buildSliceG (pv := [(0, _)]) (cs := [_, _, _]) (fun l => match l with | [.agg ⟨[a0_0, a0_1, a0_2]⟩] => [a0_0, a0_1, a0_2] | _ => []) rfl el25 (.cons rfl (.nil)) rfl rfl (by kernel_rfl) rfl rfl (fun b4 => ?_))
          refine SOps.one rfl (One.append (enc := Fix.enc) (l := o) (l2 := [(⟨_, _, _⟩ : Fix)]) (m' := (o.length + 1)) (i := 2) (H' := fun A c => [_, _, _, _]) rfl el25 zero49 rfl (by decide) rfl rfl rfl (Rd.row (i := 0) rfl) (fun _ => rfl) rfl (by omega) (by omega) (fun _ _ => rfl) (fun A2 c2 => ?_))
          refine SOps.st rfl rfl (Yv.assign rfl).yl ?_
          refine SOps.nil ?_
          refine Run.ops ?_
          refine SOps.st rfl rfl (Yv.move rfl).yl ?_
          refine SOps.st rfl rfl (Yv.add rfl rfl (by omega)).yl ?_
          refine SOps.st rfl rfl (Yv.move rfl).yl ?_
          refine SOps.one rfl (One.callC (i := 3) (H' := fun _ _ => [_, _, _, _]) rfl callable75 (.cons rfl (.cons rfl (.nil))) rfl (fun w' hw' => pick_spec (Cur.lent hc (i := 3) rfl hw') (by omega) (by omega)) (fun _ _ => rfl) (fun x7 at7 sd7 ⟨hxl7, hxh7⟩ ha7 hb7 => ?_))
          refine SOps.st rfl rfl (Yv.add rfl rfl (by omega)).yl ?_
          refine SOps.st rfl rfl (Yv.assign rfl).yl ?_
          refine SOps.nil ?_
          refine Run.quiet (by intro h; cases h) ?_
          refine QOps.st rfl rfl (Yv.move rfl).yl ?_
          refine QOps.st rfl rfl (Yv.sub rfl rfl (by omega)).yl ?_
          refine QOps.st rfl rfl (Yv.assign rfl).yl ?_
          refine QOps.nil ?_
          refine ⟨(z - 1, _, _, _, _, _, _, _), ?_, ?_, (SubE.cons rfl (SubE.cons rfl (SubE.cons rfl (SubE.cons rfl (SubE.nil _))))), (List.Sublist.cons _ (List.Sublist.cons _ (List.Sublist.refl _)))⟩
          · refine ⟨by omega, by omega, ?_, by omega, by omega, by omega, by omega, ?_⟩ <;> first | rfl | omega | (simp; done) | (simp; omega)
          · first | omega | (dsimp only; omega)
      · try replace hs1 := of_decide_eq_false hs1
        refine SOps.sk rfl rfl ?_
        refine SOps.sk rfl rfl ?_
        refine SOps.st rfl rfl (Yv.pickF rfl rfl).yl ?_
        refine SOps.nil ?_
        refine Run.cond rfl (fun hc3 => ?_) (fun hc3 => ?_)
        · exfalso
          cases hc3
        · try replace hc3 := of_decide_eq_false hc3
          refine Run.skip ?_
          refine Run.seq ?_
          refine Run.ops ?_
          refine SOps.st rfl rfl (Yv.move rfl).yl ?_
          refine SOps.st rfl rfl (Yv.loadBs (i := 0) lay49 rfl rfl rfl rfl).yl ?_
          refine SOps.one rfl (One.buildSliceG (pv := [(0, _)]) (cs := [_, _, _]) (fun l => match l with | [.agg ⟨[a0_0, a0_1, a0_2]⟩] => [a0_0, a0_1, a0_2] | _ => []) rfl el25 (.cons rfl (.nil)) rfl rfl (by kernel_rfl) rfl rfl (fun b5 => ?_))
          refine SOps.one rfl (One.append (enc := Fix.enc) (l := o) (l2 := [(⟨_, _, _⟩ : Fix)]) (m' := (o.length + 1)) (i := 2) (H' := fun A c => [_, _, _, _]) rfl el25 zero49 rfl (by decide) rfl rfl rfl (Rd.row (i := 0) rfl) (fun _ => rfl) rfl (by omega) (by omega) (fun _ _ => rfl) (fun A3 c3 => ?_))
          refine SOps.st rfl rfl (Yv.assign rfl).yl ?_
          refine SOps.nil ?_
          refine Run.ops ?_
          refine SOps.st rfl rfl (Yv.move rfl).yl ?_
          refine SOps.st rfl rfl (Yv.add rfl rfl (by omega)).yl ?_
          refine SOps.st rfl rfl (Yv.move rfl).yl ?_
          refine SOps.one rfl (One.callC (i := 3) (H' := fun _ _ => [_, _, _, _]) rfl callable75 (.cons rfl (.cons rfl (.nil))) rfl (fun w' hw' => pick_spec (Cur.lent hc (i := 3) rfl hw') (by omega) (by omega)) (fun _ _ => rfl) (fun x8 at8 sd8 ⟨hxl8, hxh8⟩ ha8 hb8 => ?_))
          refine SOps.st rfl rfl (Yv.add rfl rfl (by omega)).yl ?_
          refine SOps.st rfl rfl (Yv.assign rfl).yl ?_
          refine SOps.nil ?_
          refine Run.quiet (by intro h; cases h) ?_
          refine QOps.st rfl rfl (Yv.move rfl).yl ?_
          refine QOps.st rfl rfl (Yv.sub rfl rfl (by omega)).yl ?_
          refine QOps.st rfl rfl (Yv.assign rfl).yl ?_
          refine QOps.nil ?_
          refine ⟨(z - 1, _, _, _, _, _, _, _), ?_, ?_, (SubE.cons rfl (SubE.cons rfl (SubE.cons rfl (SubE.cons rfl (SubE.nil _))))), (List.Sublist.cons _ (List.Sublist.cons _ (List.Sublist.refl _)))⟩
          · refine ⟨by omega, by omega, ?_, by omega, by omega, by omega, by omega, ?_⟩ <;> first | rfl | omega | (simp; done) | (simp; omega)
          · first | omega | (dsimp only; omega)
    · try replace hc1 := of_decide_eq_false hc1
      refine Run.exit ?_
      refine Run.seq ?_
      refine Run.seq ?_
      refine Run.ops ?_
      refine SOps.st rfl rfl (Yv.move rfl).yl ?_
      refine SOps.one rfl (One.callC (i := 1) (H' := fun _ _ => [_, _]) rfl callable75 (.cons rfl (.cons rfl (.nil))) rfl (fun w' hw' => pick_spec (Cur.lent hc (i := 1) rfl hw') (by omega) (by omega)) (fun _ _ => rfl) (fun x9 at9 sd9 ⟨hxl9, hxh9⟩ ha9 hb9 => ?_))
      refine SOps.nil ?_
      refine Run.block ?_
      refine Run.seq ?_
      refine Run.quiet (by intro h; cases h) ?_
      refine QOps.st rfl rfl (Yv.eqI rfl rfl).yl ?_
      refine QOps.st rfl rfl (Yv.assign rfl).yl ?_
      refine QOps.nil ?_
      refine Run.cond rfl (fun hc4 => ?_) (fun hc4 => ?_)
      · try replace hc4 := of_decide_eq_true hc4
        refine Run.ops ?_
        refine SOps.one rfl (One.buildSliceG (pv := []) (cs := []) (fun _ => []) rfl el25 .nil rfl rfl (by kernel_rfl) rfl rfl (fun b6 => ?_))
        refine SOps.st rfl rfl (Yv.assign rfl).yl ?_
        refine SOps.nil ?_
        refine Run.seq ?_
        refine Run.quiet (by intro h; cases h) ?_
        refine QOps.st rfl rfl (Yv.move rfl).yl ?_
        refine QOps.st rfl rfl (Yv.assign rfl).yl ?_
        refine QOps.nil ?_
        refine Run.ret ?_
        refine retQ.of (.inr rfl) rfl (.tmp rfl .nil) (fun w' hw' => ?_)
        exact retCR_of ([]) (by first | rfl | simp) rfl (by first | omega | (simp; done) | (simp; omega)) (by omega) (by omega) hw'.bel (hw'.ent _ (List.mem_of_getElem? (i := 2) rfl)) (hw'.ent _ (List.mem_of_getElem? (i := 0) rfl)) (HOk.newRow hw' (i := 2) (j := 0) rfl rfl rfl)
      · try replace hc4 := of_decide_eq_false hc4
        refine Run.seq ?_
        refine Run.quiet (by intro h; cases h) ?_
        refine QOps.st rfl rfl (Yv.eqI rfl rfl).yl ?_
        refine QOps.st rfl rfl (Yv.assign rfl).yl ?_
        refine QOps.nil ?_
        refine Run.cond rfl (fun hc5 => ?_) (fun hc5 => ?_)
        · try replace hc5 := of_decide_eq_true hc5
          refine Run.ops ?_
          refine SOps.st rfl rfl (Yv.move rfl).yl ?_
          refine SOps.st rfl rfl (Yv.move rfl).yl ?_
          refine SOps.st rfl rfl (Yv.move rfl).yl ?_
          refine SOps.one rfl (One.buildSliceG (pv := [(0, _), (1, _), (2, _)]) (cs := [_, _, _]) (fun l => match l with | [a0_0, a1_0, a2_0] => [a0_0, a1_0, a2_0] | _ => []) rfl el89 (.cons rfl (.cons rfl (.cons rfl (.nil)))) rfl rfl (by kernel_rfl) rfl rfl (fun b7 => ?_))
          refine SOps.one rfl (One.callC (i := 2) (H' := fun _ _ => [_, _, _]) rfl callable73 (.cons rfl (.cons rfl (.nil))) rfl (fun w' hw' => among_spec (Cur.lent hc (i := 2) rfl hw') (by omega) (by omega) (l := [0, 9999, 10000]) ((Rd.row (i := 0) rfl) w' hw') (by simp; try omega) (by first | omega | simp) (by first | omega | simp) (fun hm => HOk.rowNe hw' (i := 2) (j := 0) rfl rfl rfl (by first | exact hm | omega))) (fun _ _ => rfl) (fun x10 at10 sd10 hx10 ha10 hb10 => ?_))
          refine SOps.one rfl (One.callC (i := 2) (H' := fun _ _ => [_, _, _]) rfl callable76 (.cons rfl (.cons rfl (.nil))) rfl (fun w' hw' => fix_spec (Cur.lent hc (i := 2) rfl hw') (by omega) (by omega)) (fun _ _ => rfl) (fun x11 at11 sd11 _ ha11 hb11 => ?_))
          refine SOps.one rfl (One.buildSliceG (pv := [(0, _)]) (cs := [_, _, _]) (fun l => match l with | [.agg ⟨[a0_0, a0_1, a0_2]⟩] => [a0_0, a0_1, a0_2] | _ => []) rfl el25 (.cons rfl (.nil)) rfl rfl (by kernel_rfl) rfl rfl (fun b8 => ?_))
          refine SOps.one rfl (One.append (enc := Fix.enc) (l := o) (l2 := [(⟨_, _, _⟩ : Fix)]) (m' := (o.length + 1)) (i := 2) (H' := fun A c => [_, _, _, _]) rfl el25 zero49 rfl (by decide) rfl rfl rfl (Rd.row (i := 0) rfl) (fun _ => rfl) rfl (by omega) (by omega) (fun _ _ => rfl) (fun A4 c4 => ?_))
          refine SOps.st rfl rfl (Yv.assign rfl).yl ?_
          refine SOps.nil ?_
          refine Run.seq ?_
          refine Run.quiet (by intro h; cases h) ?_
          refine QOps.st rfl rfl (Yv.move rfl).yl ?_
          refine QOps.st rfl rfl (Yv.assign rfl).yl ?_
          refine QOps.nil ?_
          refine Run.ret ?_
          refine retQ.of (.inr rfl) rfl (.tmp rfl .nil) (fun w' hw' => ?_)
          exact retCR_of ((o ++ [(⟨_, _, _⟩ : Fix)])) (by first | rfl | simp) rfl (by first | omega | (simp; done) | (simp; omega)) (by omega) (by omega) hw'.bel (hw'.ent _ (List.mem_of_getElem? (i := 3) rfl)) (hw'.ent _ (List.mem_of_getElem? (i := 2) rfl)) (HOk.newRow hw' (i := 3) (j := 2) rfl rfl rfl)
        · try replace hc5 := of_decide_eq_false hc5
          refine Run.seq ?_
          refine Run.quiet (by intro h; cases h) ?_
          refine QOps.st rfl rfl (Yv.eqI rfl rfl).yl ?_
          refine QOps.st rfl rfl (Yv.assign rfl).yl ?_
          refine QOps.nil ?_
          refine Run.cond rfl (fun hc6 => ?_) (fun hc6 => ?_)
          · try replace hc6 := of_decide_eq_true hc6
            refine Run.block ?_
            refine Run.loop (S := Int × Nat × List Fix × Option Addr × Nat × Int × Int) (fun s => match s with | (mm, nn, o, A2, c2, a3, s3) => nn ≤ 10 ∧ 0 ≤ mm ∧ mm ≤ 200 + (nn : Int) ∧ at_ ≤ a3 ∧ a3 ≤ at_ + 100 + 2 * (nn : Int) ∧ o.length = nn) (fun s => match s with | (mm, nn, o, A2, c2, a3, s3) => [(0, .pointer (some ⟨g, 0, none⟩)), (3, .slice A2 nn c2), (4, .int .i64 mm)]) (fun s => match s with | (mm, nn, o, A2, c2, a3, s3) => [.row A2 c2 49 3 nn (o.flatMap Fix.enc), .blk g 85 [.slice A m c, .int .i64 a3, .int .u64 s3]]) (fun s => match s with | (mm, nn, o, A2, c2, a3, s3) => 10 - nn) (_, _, o, A2, c2, _, _) ?_ (SubE.cons rfl (SubE.cons rfl (SubE.cons rfl (SubE.nil _)))) (List.Sublist.refl _) ?_
            · refine ⟨by omega, by omega, by omega, by omega, by omega, rfl⟩
            · rintro ⟨mm, nn, o, A2, c2, a3, s3⟩ ⟨hk12, hm30, hm31, ha3l, ha3h, hnn⟩
              show Run _ _ _ _ _ [(0, .pointer (some ⟨g, 0, none⟩)), (3, .slice A2 nn c2), (4, .int .i64 mm)] [.row A2 c2 49 3 nn (o.flatMap Fix.enc), .blk g 85 [.slice A m c, .int .i64 a3, .int .u64 s3]] _
              subst hnn
              refine Run.seq ?_
              refine Run.seq ?_
              refine Run.ops ?_
              refine SOps.st rfl rfl (Yv.move rfl).yl ?_
              refine SOps.st rfl rfl (Yv.lenS el25s rfl).yl ?_
              refine SOps.st rfl rfl (Yv.move rfl).yl ?_
              refine SOps.one rfl (One.callC (i := 1) (H' := fun _ _ => [_, _]) rfl callable75 (.cons rfl (.cons rfl (.nil))) rfl (fun w' hw' => pick_spec (Cur.lent hc (i := 1) rfl hw') (by omega) (by omega)) (fun _ _ => rfl) (fun x12 at12 sd12 ⟨hxl12, hxh12⟩ ha12 hb12 => ?_))
              refine SOps.st rfl rfl (Yv.add rfl rfl (by omega)).yl ?_
              refine SOps.st rfl rfl (Yv.lss rfl rfl).yl ?_
              refine SOps.nil ?_
              refine Run.cond rfl (fun hc7 => ?_) (fun hc7 => ?_)
              · try replace hc7 := of_decide_eq_true hc7
                refine Run.skip ?_
                refine Run.block ?_
                refine Run.seq ?_
                refine Run.ops ?_
                refine SOps.st rfl rfl (Yv.move rfl).yl ?_
                refine SOps.st rfl rfl (Yv.move rfl).yl ?_
                refine SOps.st rfl rfl (Yv.buildG (pv := [(0, _), (1, _), (2, _)]) (cs := [_, _, _]) (fun l => match l with | [a0_0, a1_0, a2_0] => [a0_0, a1_0, a2_0] | _ => []) (.cons rfl (.cons rfl (.cons rfl (.nil)))) rfl rfl (by kernel_rfl)).yl ?_
                refine SOps.one rfl (One.buildSliceG (pv := [(0, _)]) (cs := [_, _, _]) (fun l => match l with | [.agg ⟨[a0_0, a0_1, a0_2]⟩] => [a0_0, a0_1, a0_2] | _ => []) rfl el25 (.cons rfl (.nil)) rfl rfl (by kernel_rfl) rfl rfl (fun b9 => ?_))
                refine SOps.one rfl (One.append (enc := Fix.enc) (l := o) (l2 := [(⟨_, _, _⟩ : Fix)]) (m' := (o.length + 1)) (i := 1) (H' := fun A c => [_, _, _]) rfl el25 zero49 rfl (by decide) rfl rfl rfl (Rd.row (i := 0) rfl) (fun _ => rfl) rfl (by omega) (by omega) (fun _ _ => rfl) (fun A5 c5 => ?_))
                refine SOps.st rfl rfl (Yv.assign rfl).yl ?_
                refine SOps.nil ?_
                refine Run.quiet (by intro h; cases h) ?_
                refine QOps.st rfl rfl (Yv.move rfl).yl ?_
                refine QOps.st rfl rfl (Yv.add rfl rfl (by omega)).yl ?_
                refine QOps.st rfl rfl (Yv.assign rfl).yl ?_
                refine QOps.nil ?_
                refine ⟨(_, _, _, _, _, _, _), ?_, ?_, (SubE.cons rfl (SubE.cons rfl (SubE.cons rfl (SubE.nil _)))), (List.Sublist.cons _ (List.Sublist.refl _))⟩
                · refine ⟨by omega, by omega, by omega, by omega, by omega, ?_⟩ <;> first | rfl | omega | (simp; done) | (simp; omega)
                · first | omega | (dsimp only; omega)
              · try replace hc7 := of_decide_eq_false hc7
                refine Run.exit ?_
                refine Run.seq ?_
                refine Run.quiet (by intro h; cases h) ?_
                refine QOps.st rfl rfl (Yv.move rfl).yl ?_
                refine QOps.st rfl rfl (Yv.assign rfl).yl ?_
                refine QOps.nil ?_
                refine Run.ret ?_
                refine retQ.of (.inr rfl) rfl (.tmp rfl .nil) (fun w' hw' => ?_)
                exact retCR_of (o) (by first | rfl | simp) rfl (by first | omega | (simp; done) | (simp; omega)) (by omega) (by omega) hw'.bel (hw'.ent _ (List.mem_of_getElem? (i := 1) rfl)) (hw'.ent _ (List.mem_of_getElem? (i := 0) rfl)) (HOk.newRow hw' (i := 1) (j := 0) rfl rfl rfl)
          · try replace hc6 := of_decide_eq_false hc6
            refine Run.skip ?_
            refine Run.seq ?_
            refine Run.quiet (by intro h; cases h) ?_
            refine QOps.st rfl rfl (Yv.move rfl).yl ?_
            refine QOps.st rfl rfl (Yv.assign rfl).yl ?_
            refine QOps.nil ?_
            refine Run.ret ?_
            refine retQ.of (.inr rfl) rfl (.tmp rfl .nil) (fun w' hw' => ?_)
            exact retCR_of (o) (by first | rfl | simp) rfl (by first | omega | (simp; done) | (simp; omega)) (by omega) (by omega) hw'.bel (hw'.ent _ (List.mem_of_getElem? (i := 1) rfl)) (hw'.ent _ (List.mem_of_getElem? (i := 0) rfl)) (HOk.newRow hw' (i := 1) (j := 0) rfl rfl rfl)
theorem vBig_spec {w : World} {A : Option Addr} {n c : Nat} : Calls Try.prog 40 #[.slice A n c] w (RetB w (.bool (decide ((65536 : Int) < (n : Int))))) := by
  refine calls_of_run (vs := [_]) (L := [(0, _)]) (n := 6) (F := []) (H := []) Try.func40 rfl rfl rfl rfl (HOk.start _) ?_
  refine Run.seq ?_
  refine Run.quiet (by intro h; cases h) ?_
  refine QOps.st rfl rfl (Yv.assign rfl).yl ?_
  refine QOps.nil ?_
  refine Run.seq ?_
  refine Run.quiet (by intro h; cases h) ?_
  refine QOps.st rfl rfl (Yv.move rfl).yl ?_
  refine QOps.st rfl rfl (Yv.lenS el58s rfl).yl ?_
  refine QOps.st rfl rfl (Yv.gtr rfl rfl).yl ?_
  refine QOps.st rfl rfl (Yv.assign rfl).yl ?_
  refine QOps.nil ?_
  refine Run.ret ?_
  refine retQ.of (.inr rfl) rfl (.tmp rfl .nil) (fun w' hw' => ?_)
  refine ⟨?_, hw'.bel.below⟩
  exact rfl

theorem DrawSpanAt_spec {w : World} {A : Option Addr} {c : Nat} {xs : List UInt8} (hs : Sl w 1 A xs.length c (xs.flatMap byteC)) :
    Calls Try.prog 41 #[.slice A xs.length c] w (RetER w 49 3 Fix.enc (fun (x : List Fix × Int × Int) => x.1) (fun x v => .tuple #[v, .int .i64 x.2.1, .int .i64 x.2.2]) (fun x => x.1.length ≤ 20)) := by
  refine calls_of_run (vs := [_]) (L := [(0, _)]) (n := 16) (F := []) (H := []) Try.func41 rfl rfl rfl rfl (HOk.start _) ?_
  refine Run.seq ?_
  refine Run.quiet (by intro h; cases h) ?_
  refine QOps.st rfl rfl (Yv.assign rfl).yl ?_
  refine QOps.st rfl rfl (Yv.assign rfl).yl ?_
  refine QOps.st rfl rfl (Yv.assign rfl).yl ?_
  refine QOps.nil ?_
  refine Run.seq ?_
  refine Run.ops ?_
  refine SOps.st rfl rfl (Yv.move rfl).yl ?_
  refine SOps.st rfl rfl (Yv.buildG (pv := [(0, _)]) (cs := [_, _, _]) (fun l => match l with | [a0_0] => [a0_0, .int .i64 0, .int .u64 0] | _ => []) (.cons rfl (.nil)) rfl rfl (by kernel_rfl)).yl ?_
  refine SOps.one rfl (One.box (cs := [_, _, _]) rfl rfl rfl (fun b1 => ?_))
  refine SOps.st rfl rfl (Yv.assign rfl).yl ?_
  refine SOps.nil ?_
  refine Run.seq ?_
  refine Run.ops ?_
  refine SOps.st rfl rfl (Yv.move rfl).yl ?_
  refine SOps.one rfl (One.callCR (i := 0) (H' := fun _ _ => [_]) rfl callable71 (.cons rfl (.nil)) rfl (fun w' hw' => fixes_spec (Cur.own hs (i := 0) rfl hw') (by omega) (by omega)) (fun _ _ => rfl) (fun x1 Aq1 cq1 at1 sd1 hx1 ha1 hb1 => ?_))
  refine SOps.st rfl rfl (Yv.move rfl).yl ?_
  refine SOps.one rfl (One.callC (i := 1) (H' := fun _ _ => [_, _]) rfl callable72 (.cons rfl (.nil)) rfl (fun w' hw' => pace_spec (Cur.own hs (i := 1) rfl hw') (by omega) (by omega)) (fun _ _ => rfl) (fun x2 at2 sd2 _ ha2 hb2 => ?_))
  refine SOps.st rfl rfl (Yv.move rfl).yl ?_
  refine SOps.one rfl (One.buildSliceG (pv := [(0, _), (1, _), (2, _), (3, _), (4, _), (5, _), (6, _), (7, _), (8, _)]) (cs := [_, _, _, _, _, _, _, _, _]) (fun l => match l with | [a0_0, a1_0, a2_0, a3_0, a4_0, a5_0, a6_0, a7_0, a8_0] => [a0_0, a1_0, a2_0, a3_0, a4_0, a5_0, a6_0, a7_0, a8_0] | _ => []) rfl el89 (.cons rfl (.cons rfl (.cons rfl (.cons rfl (.cons rfl (.cons rfl (.cons rfl (.cons rfl (.cons rfl (.nil)))))))))) rfl rfl (by kernel_rfl) rfl rfl (fun b2 => ?_))
  refine SOps.one rfl (One.callC (i := 2) (H' := fun _ _ => [_, _, _]) rfl callable73 (.cons rfl (.cons rfl (.nil))) rfl (fun w' hw' => among_spec (Cur.own hs (i := 2) rfl hw') (by omega) (by omega) (l := [0, 3, 7, 12, 20, 30, 9999, 10000, 5]) ((Rd.row (i := 0) rfl) w' hw') (by simp; try omega) (by first | omega | simp) (by first | omega | simp) (fun hm => HOk.rowNe hw' (i := 2) (j := 0) rfl rfl rfl (by first | exact hm | omega))) (fun _ _ => rfl) (fun x3 at3 sd3 hx3 ha3 hb3 => ?_))
  refine SOps.st rfl rfl (Yv.assign rfl).yl ?_
  refine SOps.st rfl rfl (Yv.assign rfl).yl ?_
  refine SOps.st rfl rfl (Yv.assign rfl).yl ?_
  refine SOps.nil ?_
  refine Run.ret ?_
  refine retQ.of (.inr rfl) rfl (.tmp rfl (.tmp rfl (.tmp rfl .nil))) (fun w' hw' => ?_)
  exact retER_of ((x1, x2, x3)) (by first | rfl | simp) rfl (by omega) hw'.bel.below (hw'.ent _ (List.mem_of_getElem? (i := 1) rfl)) (fun b hb => (hw'.own _ (List.mem_of_getElem? (i := 1) rfl) b hb).elim id (by simp))

theorem DrawMayBeAt_spec {w : World} {A : Option Addr} {c : Nat} {xs : List UInt8} (hs : Sl w 1 A xs.length c (xs.flatMap byteC)) :
    Calls Try.prog 42 #[.slice A xs.length c] w (RetER w 49 3 Fix.enc (fun (x : List Fix × Int × Int × Int) => x.1) (fun x v => .tuple #[v, .int .i64 x.2.1, .int .i64 x.2.2.1, .int .i64 x.2.2.2]) (fun x => x.1.length ≤ 20)) := by
  refine calls_of_run (vs := [_]) (L := [(0, _)]) (n := 25) (F := []) (H := []) Try.func42 rfl rfl rfl rfl (HOk.start _) ?_
  refine Run.seq ?_
  refine Run.quiet (by intro h; cases h) ?_
  refine QOps.st rfl rfl (Yv.assign rfl).yl ?_
  refine QOps.st rfl rfl (Yv.assign rfl).yl ?_
  refine QOps.st rfl rfl (Yv.assign rfl).yl ?_
  refine QOps.st rfl rfl (Yv.assign rfl).yl ?_
  refine QOps.nil ?_
  refine Run.seq ?_
  refine Run.ops ?_
  refine SOps.st rfl rfl (Yv.move rfl).yl ?_
  refine SOps.one rfl (One.callER rfl callable41 (.cons rfl (.nil)) (fun w' hw' => DrawSpanAt_spec ((Rd.arg hs) w' hw')) ?_)
  rintro ⟨ya1, yb1, yd1⟩ Aq1 cq1 hx1
  try dsimp only at *
  refine SOps.st rfl rfl (Yv.move rfl).yl ?_
  refine SOps.st rfl rfl (Yv.extract rfl rfl).yl ?_
  refine SOps.st rfl rfl (Yv.extract rfl rfl).yl ?_
  refine SOps.st rfl rfl (Yv.extract rfl rfl).yl ?_
  refine SOps.st rfl rfl (Yv.assign rfl).yl ?_
  refine SOps.st rfl rfl (Yv.assign rfl).yl ?_
  refine SOps.st rfl rfl (Yv.assign rfl).yl ?_
  refine SOps.nil ?_
  refine Run.seq ?_
  refine Run.ops ?_
  refine SOps.st rfl rfl (Yv.move rfl).yl ?_
  refine SOps.st rfl rfl (Yv.buildG (pv := [(0, _)]) (cs := [_, _, _]) (fun l => match l with | [a0_0] => [a0_0, .int .i64 0, .int .u64 0] | _ => []) (.cons rfl (.nil)) rfl rfl (by kernel_rfl)).yl ?_
  refine SOps.one rfl (One.box (cs := [_, _, _]) rfl rfl rfl (fun b1 => ?_))
  refine SOps.st rfl rfl (Yv.assign rfl).yl ?_
  refine SOps.nil ?_
  refine Run.seq ?_
  refine Run.ops ?_
  refine SOps.st rfl rfl (Yv.move rfl).yl ?_
  refine SOps.st rfl rfl (Yv.move rfl).yl ?_
  refine SOps.st rfl rfl (Yv.move rfl).yl ?_
  refine SOps.st rfl rfl (Yv.move rfl).yl ?_
  refine SOps.one rfl (One.buildSliceG (pv := [(0, _), (1, _), (2, _), (3, _), (4, _), (5, _), (6, _), (7, _)]) (cs := [_, _, _, _, _, _, _, _]) (fun l => match l with | [a0_0, a1_0, a2_0, a3_0, a4_0, a5_0, a6_0, a7_0] => [a0_0, a1_0, a2_0, a3_0, a4_0, a5_0, a6_0, a7_0] | _ => []) rfl el89 (.cons rfl (.cons rfl (.cons rfl (.cons rfl (.cons rfl (.cons rfl (.cons rfl (.cons rfl (.nil))))))))) rfl rfl (by kernel_rfl) rfl rfl (fun b2 => ?_))
  refine SOps.one rfl (One.callC (i := 1) (H' := fun _ _ => [_, _, _]) rfl callable73 (.cons rfl (.cons rfl (.nil))) rfl (fun w' hw' => among_spec (Cur.own hs (i := 1) rfl hw') (by omega) (by omega) (l := [1000, 1500, 2000, 0, 100001, (-1), 2500, 1250]) ((Rd.row (i := 0) rfl) w' hw') (by simp; try omega) (by first | omega | simp) (by first | omega | simp) (fun hm => HOk.rowNe hw' (i := 1) (j := 0) rfl rfl rfl (by first | exact hm | omega))) (fun _ _ => rfl) (fun x2 at2 sd2 hx2 ha2 hb2 => ?_))
  refine SOps.st rfl rfl (Yv.assign rfl).yl ?_
  refine SOps.st rfl rfl (Yv.assign rfl).yl ?_
  refine SOps.st rfl rfl (Yv.assign rfl).yl ?_
  refine SOps.st rfl rfl (Yv.assign rfl).yl ?_
  refine SOps.nil ?_
  refine Run.ret ?_
  refine retQ.of (.inr rfl) rfl (.tmp rfl (.tmp rfl (.tmp rfl (.tmp rfl .nil)))) (fun w' hw' => ?_)
  exact retER_of ((ya1, yb1, yd1, x2)) (by first | rfl | simp) rfl (by omega) hw'.bel.below (hw'.ent _ (List.mem_of_getElem? (i := 2) rfl)) (fun b hb => (hw'.own _ (List.mem_of_getElem? (i := 2) rfl) b hb).elim id (by simp))

theorem DrawPassingMinutes_spec {w : World} {A : Option Addr} {c : Nat} {xs : List UInt8} (hs : Sl w 1 A xs.length c (xs.flatMap byteC)) :
    Calls Try.prog 43 #[.slice A xs.length c] w (RetER w 49 3 Fix.enc (fun (x : List Fix × Int × Int) => x.1) (fun x v => .tuple #[v, .int .i64 x.2.1, .int .i64 x.2.2]) (fun x => x.1.length ≤ 20)) := by
  refine calls_of_run (vs := [_]) (L := [(0, _)]) (n := 19) (F := []) (H := []) Try.func43 rfl rfl rfl rfl (HOk.start _) ?_
  refine Run.seq ?_
  refine Run.quiet (by intro h; cases h) ?_
  refine QOps.st rfl rfl (Yv.assign rfl).yl ?_
  refine QOps.st rfl rfl (Yv.assign rfl).yl ?_
  refine QOps.st rfl rfl (Yv.assign rfl).yl ?_
  refine QOps.nil ?_
  refine Run.seq ?_
  refine Run.ops ?_
  refine SOps.st rfl rfl (Yv.move rfl).yl ?_
  refine SOps.one rfl (One.callER rfl callable42 (.cons rfl (.nil)) (fun w' hw' => DrawMayBeAt_spec ((Rd.arg hs) w' hw')) ?_)
  rintro ⟨ya1, yb1, yd1, ye1⟩ Aq1 cq1 hx1
  try dsimp only at *
  refine SOps.st rfl rfl (Yv.move rfl).yl ?_
  refine SOps.st rfl rfl (Yv.extract rfl rfl).yl ?_
  refine SOps.st rfl rfl (Yv.extract rfl rfl).yl ?_
  refine SOps.st rfl rfl (Yv.extract rfl rfl).yl ?_
  refine SOps.st rfl rfl (Yv.extract rfl rfl).yl ?_
  refine SOps.st rfl rfl (Yv.assign rfl).yl ?_
  refine SOps.st rfl rfl (Yv.assign rfl).yl ?_
  refine SOps.st rfl rfl (Yv.assign rfl).yl ?_
  refine SOps.st rfl rfl (Yv.assign rfl).yl ?_
  refine SOps.nil ?_
  refine Run.seq ?_
  refine Run.quiet (by intro h; cases h) ?_
  refine QOps.st rfl rfl (Yv.move rfl).yl ?_
  refine QOps.st rfl rfl (Yv.move rfl).yl ?_
  refine QOps.st rfl rfl (Yv.move rfl).yl ?_
  refine QOps.st rfl rfl (Yv.assign rfl).yl ?_
  refine QOps.st rfl rfl (Yv.assign rfl).yl ?_
  refine QOps.st rfl rfl (Yv.assign rfl).yl ?_
  refine QOps.nil ?_
  refine Run.ret ?_
  refine retQ.of (.inr rfl) rfl (.tmp rfl (.tmp rfl (.tmp rfl .nil))) (fun w' hw' => ?_)
  exact retER_of ((ya1, yb1, ye1)) (by first | rfl | simp) rfl (by omega) hw'.bel.below (hw'.ent _ (List.mem_of_getElem? (i := 0) rfl)) (fun b hb => (hw'.own _ (List.mem_of_getElem? (i := 0) rfl) b hb).elim id (by simp))

theorem DrawMayMeet_spec {w : World} {A : Option Addr} {c : Nat} {xs : List UInt8} (hs : Sl w 1 A xs.length c (xs.flatMap byteC)) :
    Calls Try.prog 45 #[.slice A xs.length c] w (RetER2 w 49 3 Fix.enc (fun (x : List Fix × List Fix × Int × Int) => x.1) 49 3 Fix.enc (fun x => x.2.1) (fun x v v2 => .tuple #[v, v2, .int .i64 x.2.2.1, .int .i64 x.2.2.2]) (fun x => x.1.length ≤ 20 ∧ x.2.1.length ≤ 20)) := by
  refine calls_of_run (vs := [_]) (L := [(0, _)]) (n := 19) (F := []) (H := []) Try.func45 rfl rfl rfl rfl (HOk.start _) ?_
  refine Run.seq ?_
  refine Run.quiet (by intro h; cases h) ?_
  refine QOps.st rfl rfl (Yv.assign rfl).yl ?_
  refine QOps.st rfl rfl (Yv.assign rfl).yl ?_
  refine QOps.st rfl rfl (Yv.assign rfl).yl ?_
  refine QOps.st rfl rfl (Yv.assign rfl).yl ?_
  refine QOps.nil ?_
  refine Run.seq ?_
  refine Run.ops ?_
  refine SOps.st rfl rfl (Yv.move rfl).yl ?_
  refine SOps.st rfl rfl (Yv.buildG (pv := [(0, _)]) (cs := [_, _, _]) (fun l => match l with | [a0_0] => [a0_0, .int .i64 0, .int .u64 0] | _ => []) (.cons rfl (.nil)) rfl rfl (by kernel_rfl)).yl ?_
  refine SOps.one rfl (One.box (cs := [_, _, _]) rfl rfl rfl (fun b1 => ?_))
  refine SOps.st rfl rfl (Yv.assign rfl).yl ?_
  refine SOps.nil ?_
  refine Run.seq ?_
  refine Run.ops ?_
  refine SOps.st rfl rfl (Yv.move rfl).yl ?_
  refine SOps.one rfl (One.callCR (i := 0) (H' := fun _ _ => [_]) rfl callable71 (.cons rfl (.nil)) rfl (fun w' hw' => fixes_spec (Cur.own hs (i := 0) rfl hw') (by omega) (by omega)) (fun _ _ => rfl) (fun x1 Aq1 cq1 at1 sd1 hx1 ha1 hb1 => ?_))
  refine SOps.st rfl rfl (Yv.move rfl).yl ?_
  refine SOps.one rfl (One.callCR (i := 1) (H' := fun _ _ => [_, _]) rfl callable71 (.cons rfl (.nil)) rfl (fun w' hw' => fixes_spec (Cur.own hs (i := 1) rfl hw') (by omega) (by omega)) (fun _ _ => rfl) (fun x2 Aq2 cq2 at2 sd2 hx2 ha2 hb2 => ?_))
  refine SOps.st rfl rfl (Yv.move rfl).yl ?_
  refine SOps.one rfl (One.callC (i := 2) (H' := fun _ _ => [_, _, _]) rfl callable72 (.cons rfl (.nil)) rfl (fun w' hw' => pace_spec (Cur.own hs (i := 2) rfl hw') (by omega) (by omega)) (fun _ _ => rfl) (fun x3 at3 sd3 _ ha3 hb3 => ?_))
  refine SOps.st rfl rfl (Yv.move rfl).yl ?_
  refine SOps.one rfl (One.buildSliceG (pv := [(0, _), (1, _), (2, _), (3, _), (4, _), (5, _), (6, _), (7, _), (8, _)]) (cs := [_, _, _, _, _, _, _, _, _]) (fun l => match l with | [a0_0, a1_0, a2_0, a3_0, a4_0, a5_0, a6_0, a7_0, a8_0] => [a0_0, a1_0, a2_0, a3_0, a4_0, a5_0, a6_0, a7_0, a8_0] | _ => []) rfl el89 (.cons rfl (.cons rfl (.cons rfl (.cons rfl (.cons rfl (.cons rfl (.cons rfl (.cons rfl (.cons rfl (.nil)))))))))) rfl rfl (by kernel_rfl) rfl rfl (fun b2 => ?_))
  refine SOps.one rfl (One.callC (i := 3) (H' := fun _ _ => [_, _, _, _]) rfl callable73 (.cons rfl (.cons rfl (.nil))) rfl (fun w' hw' => among_spec (Cur.own hs (i := 3) rfl hw') (by omega) (by omega) (l := [0, 3, 7, 12, 20, 30, 9999, 10000, 5]) ((Rd.row (i := 0) rfl) w' hw') (by simp; try omega) (by first | omega | simp) (by first | omega | simp) (fun hm => HOk.rowNe hw' (i := 3) (j := 0) rfl rfl rfl (by first | exact hm | omega))) (fun _ _ => rfl) (fun x4 at4 sd4 hx4 ha4 hb4 => ?_))
  refine SOps.st rfl rfl (Yv.assign rfl).yl ?_
  refine SOps.st rfl rfl (Yv.assign rfl).yl ?_
  refine SOps.st rfl rfl (Yv.assign rfl).yl ?_
  refine SOps.st rfl rfl (Yv.assign rfl).yl ?_
  refine SOps.nil ?_
  refine Run.ret ?_
  refine retQ.of (.inr rfl) rfl (.tmp rfl (.tmp rfl (.tmp rfl (.tmp rfl .nil)))) (fun w' hw' => ?_)
  exact ⟨(x1, x2, x3, x4), ⟨by omega, by omega⟩, retRow2_own (i := 2) (j := 1) hw' rfl rfl rfl rfl⟩
end Go.Proofs.Ytliealfihglkmaa
