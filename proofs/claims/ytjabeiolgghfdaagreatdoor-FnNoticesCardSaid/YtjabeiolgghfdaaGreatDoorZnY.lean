/- Notices, their texts and spoilt ones are drawn. Conditions: none. -/
import Derived.Test.YtjabeiolgghfdaaGreatDoorZnX
import Derived.Test.YtjabeiolgghfdaaGreatDoorJn
namespace Go.Proofs.YtjabeiolgghfdaaGreatDoor
open Go.RowKit
set_option maxRecDepth 100000
theorem next_spec {w : World} {g m c : Nat} {A : Option Addr} {xs : List UInt8} {at_ sd : Int} (hc : Cur w 48 g A m c xs at_ sd) (h0 : 0 ≤ at_) (h1 : at_ ≤ 9000000000000000000) : Calls Tryz.prog 68 #[.pointer (some ⟨g, 0, none⟩)] w (RetC w 48 g (.slice A m c) at_ 1 (fun (x : Int) => .int .i64 x) (fun x => 0 ≤ x ∧ x ≤ 255)) := by
  have hxl : xs.length = m := by have := hc.code.len; rw [flat_len byteC_len] at this; omega
  refine calls_of_run (vs := [_]) (L := [(0, _)]) (n := 62) (F := [g]) (H := [_]) Tryz.func68 rfl rfl rfl rfl (HOk.lend hc) ?_
  refine Run.seq ?_
  refine Run.quiet (by intro h; cases h) ?_
  refine QOps.st rfl rfl (Yv.assign rfl).yl ?_
  refine QOps.nil ?_
  refine Run.seq ?_
  refine Run.quiet (by intro h; cases h) ?_
  refine QOps.st rfl rfl (Yv.assign rfl).yl ?_
  refine QOps.nil ?_
  refine Run.seq ?_
  refine Run.seq ?_
  refine Run.quiet (fun _ => ⟨by kernel_rfl, by kernel_rfl⟩) ?_
  refine QOps.st rfl rfl (Yv.move rfl).yl ?_
  refine QOps.st rfl rfl (Yv.nilCheck rfl).yl ?_
  refine QOps.st rfl rfl (Yv.fieldAddr fld48_1 rfl).yl ?_
  refine QOps.st rfl rfl (Yv.loadB (i := 0) lay3 rfl rfl rfl rfl).yl ?_
  refine QOps.st rfl rfl (Yv.move rfl).yl ?_
  refine QOps.st rfl rfl (Yv.nilCheck rfl).yl ?_
  refine QOps.st rfl rfl (Yv.fieldAddr fld48_0 rfl).yl ?_
  refine QOps.st rfl rfl (Yv.loadB (i := 0) lay22 rfl rfl rfl rfl).yl ?_
  refine QOps.st rfl rfl (Yv.lenS el22s rfl).yl ?_
  refine QOps.st rfl rfl (Yv.lss rfl rfl).yl ?_
  refine QOps.nil ?_
  refine Run.cond rfl (fun hc1 => ?_) (fun hc1 => ?_)
  · try replace hc1 := of_decide_eq_true hc1
    refine Run.quiet (fun _ => ⟨by kernel_rfl, by kernel_rfl⟩) ?_
    refine QOps.st rfl rfl (Yv.move rfl).yl ?_
    refine QOps.st rfl rfl (Yv.nilCheck rfl).yl ?_
    refine QOps.st rfl rfl (Yv.fieldAddr fld48_0 rfl).yl ?_
    refine QOps.st rfl rfl (Yv.loadB (i := 0) lay22 rfl rfl rfl rfl).yl ?_
    refine QOps.st rfl rfl (Yv.move rfl).yl ?_
    refine QOps.st rfl rfl (Yv.nilCheck rfl).yl ?_
    refine QOps.st rfl rfl (Yv.fieldAddr fld48_1 rfl).yl ?_
    refine QOps.st rfl rfl (Yv.loadB (i := 0) lay3 rfl rfl rfl rfl).yl ?_
    refine QOps.st rfl rfl (Yv.indexAddr at_.toNat el22 rfl rfl (by omega) hc.rd (by omega)).yl ?_
    refine QOps.st rfl rfl (Yv.loadE lay5 rfl byteC_len hc.rd (by omega) rfl).yl ?_
    refine QOps.st rfl rfl (Yv.conv int5 int3 rfl).yl ?_
    refine QOps.st rfl rfl (Yv.assign rfl).yl ?_
    refine QOps.nil ?_
    refine Run.seq ?_
    refine Run.ops ?_
    refine SOps.st rfl rfl (Yv.move rfl).yl ?_
    refine SOps.st rfl rfl (Yv.nilCheck rfl).yl ?_
    refine SOps.st rfl rfl (Yv.fieldAddr fld48_1 rfl).yl ?_
    refine SOps.st rfl rfl (Yv.loadB (i := 0) lay3 rfl rfl rfl rfl).yl ?_
    refine SOps.st rfl rfl (Yv.add rfl rfl (by omega)).yl ?_
    refine SOps.st rfl rfl (Yv.nilCheck rfl).yl ?_
    refine SOps.st rfl rfl (Yv.fieldAddr fld48_1 rfl).yl ?_
    refine SOps.one rfl (One.store (i := 0) (off := 1) (vs := [_]) (cs' := [_, _, _]) (H' := [_]) lay3 rfl rfl rfl rfl rfl rfl rfl rfl rfl rfl ?_)
    refine SOps.nil ?_
    refine Run.seq ?_
    refine Run.ops ?_
    refine SOps.st rfl rfl (Yv.move rfl).yl ?_
    refine SOps.st rfl rfl (Yv.move rfl).yl ?_
    refine SOps.st rfl rfl (Yv.nilCheck rfl).yl ?_
    refine SOps.st rfl rfl (Yv.fieldAddr fld48_2 rfl).yl ?_
    refine SOps.st rfl rfl (Yv.loadB (i := 0) lay46 rfl rfl rfl rfl).yl ?_
    refine SOps.st rfl rfl (Yv.mulW rfl rfl).yl ?_
    refine SOps.st rfl rfl (Yv.move rfl).yl ?_
    refine SOps.st rfl rfl (Yv.conv int3 int46 rfl).yl ?_
    refine SOps.st rfl rfl (Yv.addW rfl rfl).yl ?_
    refine SOps.st rfl rfl (Yv.addW rfl rfl).yl ?_
    refine SOps.st rfl rfl (Yv.nilCheck rfl).yl ?_
    refine SOps.st rfl rfl (Yv.fieldAddr fld48_2 rfl).yl ?_
    refine SOps.one rfl (One.store (i := 0) (off := 2) (vs := [_]) (cs' := [_, _, _]) (H' := [_]) lay46 rfl rfl rfl rfl rfl rfl rfl rfl rfl rfl ?_)
    refine SOps.nil ?_
    refine Run.seq ?_
    refine Run.seq ?_
    refine Run.quiet (fun _ => ⟨by kernel_rfl, by kernel_rfl⟩) ?_
    refine QOps.st rfl rfl (Yv.move rfl).yl ?_
    refine QOps.st rfl rfl (Yv.nilCheck rfl).yl ?_
    refine QOps.st rfl rfl (Yv.fieldAddr fld48_1 rfl).yl ?_
    refine QOps.st rfl rfl (Yv.loadB (i := 0) lay3 rfl rfl rfl rfl).yl ?_
    refine QOps.st rfl rfl (Yv.move rfl).yl ?_
    refine QOps.st rfl rfl (Yv.nilCheck rfl).yl ?_
    refine QOps.st rfl rfl (Yv.fieldAddr fld48_0 rfl).yl ?_
    refine QOps.st rfl rfl (Yv.loadB (i := 0) lay22 rfl rfl rfl rfl).yl ?_
    refine QOps.st rfl rfl (Yv.lenS el22s rfl).yl ?_
    refine QOps.st rfl rfl (Yv.leq rfl rfl).yl ?_
    refine QOps.nil ?_
    refine Run.cond rfl (fun hc2 => ?_) (fun hc2 => ?_)
    · try replace hc2 := of_decide_eq_true hc2
      refine Run.seq ?_
      refine Run.quiet (by intro h; cases h) ?_
      refine QOps.st rfl rfl (Yv.move rfl).yl ?_
      refine QOps.st rfl rfl (Yv.assign rfl).yl ?_
      refine QOps.nil ?_
      refine Run.ret ?_
      refine retQ.of (.inr rfl) rfl (.tmp rfl .nil) (fun w' hw' => ?_)
      exact ⟨_, _, _, rfl, (by rw [wrap_byte]; have := (nth xs at_.toNat).toNat_lt; omega), by omega, by omega, hw'.bel, hw'.ent _ (List.mem_of_getElem? (i := 0) rfl)⟩
    · try replace hc2 := of_decide_eq_false hc2
      refine Run.skip ?_
      refine Run.seq ?_
      refine Run.quiet (by intro h; cases h) ?_
      refine QOps.st rfl rfl (Yv.move rfl).yl ?_
      refine QOps.st rfl rfl (Yv.nilCheck rfl).yl ?_
      refine QOps.st rfl rfl (Yv.fieldAddr fld48_2 rfl).yl ?_
      refine QOps.st rfl rfl (Yv.loadB (i := 0) lay46 rfl rfl rfl rfl).yl ?_
      refine QOps.st rfl rfl (Yv.shr rfl rfl (by decide)).yl ?_
      refine QOps.st rfl rfl (Yv.and rfl rfl).yl ?_
      refine QOps.st rfl rfl (Yv.conv int46 int3 rfl).yl ?_
      refine QOps.st rfl rfl (Yv.assign rfl).yl ?_
      refine QOps.nil ?_
      refine Run.ret ?_
      refine retQ.of (.inr rfl) rfl (.tmp rfl .nil) (fun w' hw' => ?_)
      exact ⟨_, _, _, rfl, and255, by omega, by omega, hw'.bel, hw'.ent _ (List.mem_of_getElem? (i := 0) rfl)⟩
  · try replace hc1 := of_decide_eq_false hc1
    refine Run.skip ?_
    refine Run.seq ?_
    refine Run.ops ?_
    refine SOps.st rfl rfl (Yv.move rfl).yl ?_
    refine SOps.st rfl rfl (Yv.nilCheck rfl).yl ?_
    refine SOps.st rfl rfl (Yv.fieldAddr fld48_1 rfl).yl ?_
    refine SOps.st rfl rfl (Yv.loadB (i := 0) lay3 rfl rfl rfl rfl).yl ?_
    refine SOps.st rfl rfl (Yv.add rfl rfl (by omega)).yl ?_
    refine SOps.st rfl rfl (Yv.nilCheck rfl).yl ?_
    refine SOps.st rfl rfl (Yv.fieldAddr fld48_1 rfl).yl ?_
    refine SOps.one rfl (One.store (i := 0) (off := 1) (vs := [_]) (cs' := [_, _, _]) (H' := [_]) lay3 rfl rfl rfl rfl rfl rfl rfl rfl rfl rfl ?_)
    refine SOps.nil ?_
    refine Run.seq ?_
    refine Run.ops ?_
    refine SOps.st rfl rfl (Yv.move rfl).yl ?_
    refine SOps.st rfl rfl (Yv.move rfl).yl ?_
    refine SOps.st rfl rfl (Yv.nilCheck rfl).yl ?_
    refine SOps.st rfl rfl (Yv.fieldAddr fld48_2 rfl).yl ?_
    refine SOps.st rfl rfl (Yv.loadB (i := 0) lay46 rfl rfl rfl rfl).yl ?_
    refine SOps.st rfl rfl (Yv.mulW rfl rfl).yl ?_
    refine SOps.st rfl rfl (Yv.move rfl).yl ?_
    refine SOps.st rfl rfl (Yv.conv int3 int46 rfl).yl ?_
    refine SOps.st rfl rfl (Yv.addW rfl rfl).yl ?_
    refine SOps.st rfl rfl (Yv.addW rfl rfl).yl ?_
    refine SOps.st rfl rfl (Yv.nilCheck rfl).yl ?_
    refine SOps.st rfl rfl (Yv.fieldAddr fld48_2 rfl).yl ?_
    refine SOps.one rfl (One.store (i := 0) (off := 2) (vs := [_]) (cs' := [_, _, _]) (H' := [_]) lay46 rfl rfl rfl rfl rfl rfl rfl rfl rfl rfl ?_)
    refine SOps.nil ?_
    refine Run.seq ?_
    refine Run.seq ?_
    refine Run.quiet (fun _ => ⟨by kernel_rfl, by kernel_rfl⟩) ?_
    refine QOps.st rfl rfl (Yv.move rfl).yl ?_
    refine QOps.st rfl rfl (Yv.nilCheck rfl).yl ?_
    refine QOps.st rfl rfl (Yv.fieldAddr fld48_1 rfl).yl ?_
    refine QOps.st rfl rfl (Yv.loadB (i := 0) lay3 rfl rfl rfl rfl).yl ?_
    refine QOps.st rfl rfl (Yv.move rfl).yl ?_
    refine QOps.st rfl rfl (Yv.nilCheck rfl).yl ?_
    refine QOps.st rfl rfl (Yv.fieldAddr fld48_0 rfl).yl ?_
    refine QOps.st rfl rfl (Yv.loadB (i := 0) lay22 rfl rfl rfl rfl).yl ?_
    refine QOps.st rfl rfl (Yv.lenS el22s rfl).yl ?_
    refine QOps.st rfl rfl (Yv.leq rfl rfl).yl ?_
    refine QOps.nil ?_
    refine Run.cond rfl (fun hc3 => ?_) (fun hc3 => ?_)
    · try replace hc3 := of_decide_eq_true hc3
      refine Run.seq ?_
      refine Run.quiet (by intro h; cases h) ?_
      refine QOps.st rfl rfl (Yv.move rfl).yl ?_
      refine QOps.st rfl rfl (Yv.assign rfl).yl ?_
      refine QOps.nil ?_
      refine Run.ret ?_
      refine retQ.of (.inr rfl) rfl (.tmp rfl .nil) (fun w' hw' => ?_)
      exact ⟨_, _, _, rfl, (by omega), by omega, by omega, hw'.bel, hw'.ent _ (List.mem_of_getElem? (i := 0) rfl)⟩
    · try replace hc3 := of_decide_eq_false hc3
      refine Run.skip ?_
      refine Run.seq ?_
      refine Run.quiet (by intro h; cases h) ?_
      refine QOps.st rfl rfl (Yv.move rfl).yl ?_
      refine QOps.st rfl rfl (Yv.nilCheck rfl).yl ?_
      refine QOps.st rfl rfl (Yv.fieldAddr fld48_2 rfl).yl ?_
      refine QOps.st rfl rfl (Yv.loadB (i := 0) lay46 rfl rfl rfl rfl).yl ?_
      refine QOps.st rfl rfl (Yv.shr rfl rfl (by decide)).yl ?_
      refine QOps.st rfl rfl (Yv.and rfl rfl).yl ?_
      refine QOps.st rfl rfl (Yv.conv int46 int3 rfl).yl ?_
      refine QOps.st rfl rfl (Yv.assign rfl).yl ?_
      refine QOps.nil ?_
      refine Run.ret ?_
      refine retQ.of (.inr rfl) rfl (.tmp rfl .nil) (fun w' hw' => ?_)
      exact ⟨_, _, _, rfl, and255, by omega, by omega, hw'.bel, hw'.ent _ (List.mem_of_getElem? (i := 0) rfl)⟩
theorem tmod_in {x n : Int} (hx : 0 ≤ x) (hn : 0 < n) : 0 ≤ x.tmod n ∧ x.tmod n < n := ⟨Int.tmod_nonneg n hx, Int.tmod_lt_of_pos x hn⟩
theorem pick_spec {w : World} {g m c : Nat} {A : Option Addr} {xs : List UInt8} {at_ sd : Int} {n : Int} (hc : Cur w 48 g A m c xs at_ sd) (h0 : 0 ≤ at_) (h1 : at_ ≤ 8000000000000000000)  : Calls Tryz.prog 47 #[.pointer (some ⟨g, 0, none⟩), .int .i64 n] w (RetC w 48 g (.slice A m c) at_ 2 (fun (x : Int) => .int .i64 x) (fun x => 0 ≤ x ∧ (x < n ∨ n ≤ 1 ∧ x = 0))) := by
  refine calls_of_run (vs := [_, _]) (L := [(0, _), (1, _)]) (n := 20) (F := [g]) (H := [_]) Tryz.func47 rfl rfl rfl rfl (HOk.lend hc) ?_
  refine Run.seq ?_
  refine Run.quiet (by intro h; cases h) ?_
  refine QOps.st rfl rfl (Yv.assign rfl).yl ?_
  refine QOps.nil ?_
  refine Run.seq ?_
  refine Run.seq ?_
  refine Run.quiet (by intro h; cases h) ?_
  refine QOps.st rfl rfl (Yv.move rfl).yl ?_
  refine QOps.st rfl rfl (Yv.leq rfl rfl).yl ?_
  refine QOps.nil ?_
  refine Run.cond rfl (fun hc1 => ?_) (fun hc1 => ?_)
  · try replace hc1 := of_decide_eq_true hc1
    refine Run.seq ?_
    refine Run.quiet (by intro h; cases h) ?_
    refine QOps.st rfl rfl (Yv.assign rfl).yl ?_
    refine QOps.nil ?_
    refine Run.ret ?_
    refine retQ.of (.inr rfl) rfl (.tmp rfl .nil) (fun w' hw' => ?_)
    exact ⟨0, _, _, rfl, ⟨by omega, .inr ⟨hc1, rfl⟩⟩, by omega, by omega, hw'.bel, hw'.ent _ (List.mem_of_getElem? (i := 0) rfl)⟩
  · try replace hc1 := of_decide_eq_false hc1
    refine Run.skip ?_
    refine Run.seq ?_
    refine Run.ops ?_
    refine SOps.st rfl rfl (Yv.move rfl).yl ?_
    refine SOps.one rfl (One.callC (i := 0) (H' := fun _ _ => [_]) rfl callable68 (.cons rfl (.nil)) rfl (fun w' hw' => next_spec (Cur.lent hc (i := 0) rfl hw') (by omega) (by omega)) (fun _ _ => rfl) (fun x1 at1 sd1 ⟨hxl1, hxh1⟩ ha1 hb1 => ?_))
    refine SOps.st rfl rfl (Yv.assign rfl).yl ?_
    refine SOps.nil ?_
    refine Run.seq ?_
    refine Run.seq ?_
    refine Run.quiet (by intro h; cases h) ?_
    refine QOps.st rfl rfl (Yv.move rfl).yl ?_
    refine QOps.st rfl rfl (Yv.gtr rfl rfl).yl ?_
    refine QOps.nil ?_
    refine Run.cond rfl (fun hc2 => ?_) (fun hc2 => ?_)
    · try replace hc2 := of_decide_eq_true hc2
      refine Run.ops ?_
      refine SOps.st rfl rfl (Yv.move rfl).yl ?_
      refine SOps.st rfl rfl (Yv.mul rfl rfl (by omega)).yl ?_
      refine SOps.st rfl rfl (Yv.move rfl).yl ?_
      refine SOps.one rfl (One.callC (i := 0) (H' := fun _ _ => [_]) rfl callable68 (.cons rfl (.nil)) rfl (fun w' hw' => next_spec (Cur.lent hc (i := 0) rfl hw') (by omega) (by omega)) (fun _ _ => rfl) (fun x2 at2 sd2 ⟨hxl2, hxh2⟩ ha2 hb2 => ?_))
      refine SOps.st rfl rfl (Yv.add rfl rfl (by omega)).yl ?_
      refine SOps.st rfl rfl (Yv.assign rfl).yl ?_
      refine SOps.nil ?_
      refine Run.seq ?_
      refine Run.quiet (by intro h; cases h) ?_
      refine QOps.st rfl rfl (Yv.move rfl).yl ?_
      refine QOps.st rfl rfl (Yv.move rfl).yl ?_
      refine QOps.st rfl rfl (Yv.rem rfl rfl (by omega)).yl ?_
      refine QOps.st rfl rfl (Yv.assign rfl).yl ?_
      refine QOps.nil ?_
      refine Run.ret ?_
      refine retQ.of (.inr rfl) rfl (.tmp rfl .nil) (fun w' hw' => ?_)
      exact ⟨_, _, _, rfl, (by have := tmod_in (x := x1 * 256 + x2) (n := n) (by omega) (by omega); exact ⟨this.1, .inl this.2⟩), by omega, by omega, hw'.bel, hw'.ent _ (List.mem_of_getElem? (i := 0) rfl)⟩
    · try replace hc2 := of_decide_eq_false hc2
      refine Run.skip ?_
      refine Run.seq ?_
      refine Run.quiet (by intro h; cases h) ?_
      refine QOps.st rfl rfl (Yv.move rfl).yl ?_
      refine QOps.st rfl rfl (Yv.move rfl).yl ?_
      refine QOps.st rfl rfl (Yv.rem rfl rfl (by omega)).yl ?_
      refine QOps.st rfl rfl (Yv.assign rfl).yl ?_
      refine QOps.nil ?_
      refine Run.ret ?_
      refine retQ.of (.inr rfl) rfl (.tmp rfl .nil) (fun w' hw' => ?_)
      exact ⟨_, _, _, rfl, (by have := tmod_in (x := x1) (n := n) (by omega) (by omega); exact ⟨this.1, .inl this.2⟩), by omega, by omega, hw'.bel, hw'.ent _ (List.mem_of_getElem? (i := 0) rfl)⟩

theorem one_spec {w : World} {g m c : Nat} {A : Option Addr} {xs : List UInt8} {at_ sd : Int} {n : Int} (hc : Cur w 48 g A m c xs at_ sd) (h0 : 0 ≤ at_) (h1 : at_ ≤ 7000000000000000000)  : Calls Tryz.prog 30 #[.pointer (some ⟨g, 0, none⟩), .int .i64 n] w (RetC w 48 g (.slice A m c) at_ 2 (fun (x : Bool) => .bool x) (fun _ => True)) := by
  refine calls_of_run (vs := [_, _]) (L := [(0, _), (1, _)]) (n := 9) (F := [g]) (H := [_]) Tryz.func30 rfl rfl rfl rfl (HOk.lend hc) ?_
  refine Run.seq ?_
  refine Run.quiet (by intro h; cases h) ?_
  refine QOps.st rfl rfl (Yv.assign rfl).yl ?_
  refine QOps.nil ?_
  refine Run.seq ?_
  refine Run.ops ?_
  refine SOps.st rfl rfl (Yv.move rfl).yl ?_
  refine SOps.st rfl rfl (Yv.move rfl).yl ?_
  refine SOps.one rfl (One.callC (i := 0) (H' := fun _ _ => [_]) rfl callable47 (.cons rfl (.cons rfl (.nil))) rfl (fun w' hw' => pick_spec (Cur.lent hc (i := 0) rfl hw') (by omega) (by omega)) (fun _ _ => rfl) (fun x1 at1 sd1 ⟨hxl1, hxh1⟩ ha1 hb1 => ?_))
  refine SOps.st rfl rfl (Yv.eqI rfl rfl).yl ?_
  refine SOps.st rfl rfl (Yv.assign rfl).yl ?_
  refine SOps.nil ?_
  refine Run.ret ?_
  refine retQ.of (.inr rfl) rfl (.tmp rfl .nil) (fun w' hw' => ?_)
  exact ⟨_, _, _, rfl, trivial, by omega, by omega, hw'.bel, hw'.ent _ (List.mem_of_getElem? (i := 0) rfl)⟩

theorem nth_mem {α : Type} [Inhabited α] {l : List α} {k : Nat} (h : k < l.length) : nth l k ∈ l := List.mem_of_getElem? (nth_get h)
theorem among_spec {w : World} {g m c : Nat} {A : Option Addr} {xs : List UInt8} {at_ sd : Int} {A2 : Option Addr} {k c2 : Nat} {l : List Int} (hc : Cur w 48 g A m c xs at_ sd) (h0 : 0 ≤ at_) (h1 : at_ ≤ 7000000000000000000) (hl : Sl w 1 A2 k c2 (l.flatMap intC)) (hk : l.length = k) (hk0 : 0 < k) (hkm : k ≤ 1048576) (hne2 : 0 < k → (adr A2).block ≠ g) : Calls Tryz.prog 21 #[.pointer (some ⟨g, 0, none⟩), .slice A2 k c2] w (RetC w 48 g (.slice A m c) at_ 2 (fun (x : Int) => .int .i64 x) (fun x => x ∈ l)) := by
  refine calls_of_run (vs := [_, _]) (L := [(0, _), (1, _)]) (n := 12) (F := [g]) (H := [_]) Tryz.func21 rfl rfl rfl rfl (HOk.lend hc) ?_
  refine Run.seq ?_
  refine Run.quiet (by intro h; cases h) ?_
  refine QOps.st rfl rfl (Yv.assign rfl).yl ?_
  refine QOps.nil ?_
  refine Run.seq ?_
  refine Run.ops ?_
  refine SOps.st rfl rfl (Yv.move rfl).yl ?_
  refine SOps.st rfl rfl (Yv.move rfl).yl ?_
  refine SOps.st rfl rfl (Yv.move rfl).yl ?_
  refine SOps.st rfl rfl (Yv.lenS el35s rfl).yl ?_
  refine SOps.one rfl (One.callC (i := 0) (H' := fun _ _ => [_]) rfl callable47 (.cons rfl (.cons rfl (.nil))) rfl (fun w' hw' => pick_spec (Cur.lent hc (i := 0) rfl hw') (by omega) (by omega)) (fun _ _ => rfl) (fun x1 at1 sd1 ⟨hxl1, hxh1⟩ ha1 hb1 => ?_))
  refine SOps.st rfl rfl (Yv.indexAddr x1.toNat el35 rfl rfl (by omega) (Rd.argN hl (fun h => by simpa using hne2 h)) (by omega)).yl ?_
  refine SOps.st rfl rfl (Yv.loadE lay3 rfl intC_len (Rd.argN hl (fun h => by simpa using hne2 h)) (by omega) rfl).yl ?_
  refine SOps.st rfl rfl (Yv.assign rfl).yl ?_
  refine SOps.nil ?_
  refine Run.ret ?_
  refine retQ.of (.inr rfl) rfl (.tmp rfl .nil) (fun w' hw' => ?_)
  exact ⟨_, _, _, rfl, (nth_mem (by omega)), by omega, by omega, hw'.bel, hw'.ent _ (List.mem_of_getElem? (i := 0) rfl)⟩


theorem place17_spec {w : World} {g m c : Nat} {A : Option Addr} {xs : List UInt8} {at_ sd : Int}  (hc : Cur w 48 g A m c xs at_ sd) (h0 : 0 ≤ at_) (h1 : at_ ≤ 6000000000000000000)  : Calls Tryz.prog 48 #[.pointer (some ⟨g, 0, none⟩)] w (RetC w 48 g (.slice A m c) at_ 2 (fun (x : Int) => .int .i64 x) (fun x => 0 ≤ x ∧ x ≤ 600)) := by
  refine calls_of_run (vs := [_]) (L := [(0, _)]) (n := 6) (F := [g]) (H := [_]) Tryz.func48 rfl rfl rfl rfl (HOk.lend hc) ?_
  refine Run.seq ?_
  refine Run.quiet (by intro h; cases h) ?_
  refine QOps.st rfl rfl (Yv.assign rfl).yl ?_
  refine QOps.nil ?_
  refine Run.seq ?_
  refine Run.ops ?_
  refine SOps.st rfl rfl (Yv.move rfl).yl ?_
  refine SOps.one rfl (One.buildSliceG (pv := [(0, _), (1, _), (2, _), (3, _), (4, _), (5, _)]) (cs := [_, _, _, _, _, _]) (fun l => match l with | [a0_0, a1_0, a2_0, a3_0, a4_0, a5_0] => [a0_0, a1_0, a2_0, a3_0, a4_0, a5_0] | _ => []) rfl el35 (.cons rfl (.cons rfl (.cons rfl (.cons rfl (.cons rfl (.cons rfl (.nil))))))) rfl rfl (by kernel_rfl) rfl rfl (fun b1 => ?_))
  refine SOps.one rfl (One.callC (i := 1) (H' := fun _ _ => [_, _]) rfl callable21 (.cons rfl (.cons rfl (.nil))) rfl (fun w' hw' => among_spec (Cur.lent hc (i := 1) rfl hw') (by omega) (by omega) (l := [0, 5, 10, 40, 100, 600]) ((Rd.row (i := 0) rfl) w' hw') (by simp; try omega) (by first | omega | simp) (by first | omega | simp) (fun hm => HOk.rowNe hw' (i := 1) (j := 0) rfl rfl rfl (by first | exact hm | omega))) (fun _ _ => rfl) (fun x1 at1 sd1 hx1 ha1 hb1 => ?_))
  refine SOps.st rfl rfl (Yv.assign rfl).yl ?_
  refine SOps.nil ?_
  refine Run.ret ?_
  refine retQ.of (.inr rfl) rfl (.tmp rfl .nil) (fun w' hw' => ?_)
  exact ⟨_, _, _, rfl, (by simp at hx1; omega), by omega, by omega, hw'.bel, hw'.ent _ (List.mem_of_getElem? (i := 1) rfl)⟩

theorem way22_spec {w : World} {g m c : Nat} {A : Option Addr} {xs : List UInt8} {at_ sd : Int}  (hc : Cur w 48 g A m c xs at_ sd) (h0 : 0 ≤ at_) (h1 : at_ ≤ 6000000000000000000)  : Calls Tryz.prog 36 #[.pointer (some ⟨g, 0, none⟩)] w (RetC w 48 g (.slice A m c) at_ 4 (fun (x : Int) => .int .i64 x) (fun _ => True)) := by
  refine calls_of_run (vs := [_]) (L := [(0, _)]) (n := 11) (F := [g]) (H := [_]) Tryz.func36 rfl rfl rfl rfl (HOk.lend hc) ?_
  refine Run.seq ?_
  refine Run.quiet (by intro h; cases h) ?_
  refine QOps.st rfl rfl (Yv.assign rfl).yl ?_
  refine QOps.nil ?_
  refine Run.seq ?_
  refine Run.ops ?_
  refine SOps.st rfl rfl (Yv.move rfl).yl ?_
  refine SOps.one rfl (One.buildSliceG (pv := [(0, _), (1, _), (2, _), (3, _), (4, _), (5, _), (6, _), (7, _)]) (cs := [_, _, _, _, _, _, _, _]) (fun l => match l with | [a0_0, a1_0, a2_0, a3_0, a4_0, a5_0, a6_0, a7_0] => [a0_0, a1_0, a2_0, a3_0, a4_0, a5_0, a6_0, a7_0] | _ => []) rfl el35 (.cons rfl (.cons rfl (.cons rfl (.cons rfl (.cons rfl (.cons rfl (.cons rfl (.cons rfl (.nil))))))))) rfl rfl (by kernel_rfl) rfl rfl (fun b1 => ?_))
  refine SOps.st rfl rfl (Yv.move rfl).yl ?_
  refine SOps.one rfl (One.callC (i := 1) (H' := fun _ _ => [_, _]) rfl callable47 (.cons rfl (.cons rfl (.nil))) rfl (fun w' hw' => pick_spec (Cur.lent hc (i := 1) rfl hw') (by omega) (by omega)) (fun _ _ => rfl) (fun x1 at1 sd1 ⟨hxl1, hxh1⟩ ha1 hb1 => ?_))
  refine SOps.st rfl rfl (Yv.quoP rfl rfl (by omega) (by omega) (by omega)).yl ?_
  refine SOps.st rfl rfl (Yv.add rfl rfl (by omega)).yl ?_
  refine SOps.st rfl rfl (Yv.cutTo0 ((6 + x1 / 29).toNat) el35 rfl rfl (by omega) (by omega)).yl ?_
  refine SOps.one rfl (One.callC (i := 1) (H' := fun _ _ => [_, _]) rfl callable21 (.cons rfl (.cons rfl (.nil))) rfl (fun w' hw' => among_spec (Cur.lent hc (i := 1) rfl hw') (by omega) (by omega) (l := ([0, 4, 10, 39, 105, 600, (-1), 601].take ((6 + x1 / 29).toNat))) ((Rd.cut0 (xs := [0, 4, 10, 39, 105, 600, (-1), 601]) intC_len (Rd.row (i := 0) rfl) (by omega)) w' hw') (by simp; try omega) (by first | omega | simp) (by first | omega | simp) (fun hm => HOk.rowNe hw' (i := 1) (j := 0) rfl rfl rfl (by first | exact hm | omega))) (fun _ _ => rfl) (fun x2 at2 sd2 hx2 ha2 hb2 => ?_))
  refine SOps.st rfl rfl (Yv.assign rfl).yl ?_
  refine SOps.nil ?_
  refine Run.ret ?_
  refine retQ.of (.inr rfl) rfl (.tmp rfl .nil) (fun w' hw' => ?_)
  exact ⟨_, _, _, rfl, trivial, by omega, by omega, hw'.bel, hw'.ent _ (List.mem_of_getElem? (i := 1) rfl)⟩


theorem day22_spec {w : World} {g m c : Nat} {A : Option Addr} {xs : List UInt8} {at_ sd : Int}  (hc : Cur w 48 g A m c xs at_ sd) (h0 : 0 ≤ at_) (h1 : at_ ≤ 6000000000000000000)  : Calls Tryz.prog 37 #[.pointer (some ⟨g, 0, none⟩)] w (RetC w 48 g (.slice A m c) at_ 4 (fun (x : Int) => .int .i64 x) (fun _ => True)) := by
  refine calls_of_run (vs := [_]) (L := [(0, _)]) (n := 11) (F := [g]) (H := [_]) Tryz.func37 rfl rfl rfl rfl (HOk.lend hc) ?_
  refine Run.seq ?_
  refine Run.quiet (by intro h; cases h) ?_
  refine QOps.st rfl rfl (Yv.assign rfl).yl ?_
  refine QOps.nil ?_
  refine Run.seq ?_
  refine Run.ops ?_
  refine SOps.st rfl rfl (Yv.move rfl).yl ?_
  refine SOps.one rfl (One.buildSliceG (pv := [(0, _), (1, _), (2, _), (3, _), (4, _), (5, _), (6, _), (7, _)]) (cs := [_, _, _, _, _, _, _, _]) (fun l => match l with | [a0_0, a1_0, a2_0, a3_0, a4_0, a5_0, a6_0, a7_0] => [a0_0, a1_0, a2_0, a3_0, a4_0, a5_0, a6_0, a7_0] | _ => []) rfl el35 (.cons rfl (.cons rfl (.cons rfl (.cons rfl (.cons rfl (.cons rfl (.cons rfl (.cons rfl (.nil))))))))) rfl rfl (by kernel_rfl) rfl rfl (fun b1 => ?_))
  refine SOps.st rfl rfl (Yv.move rfl).yl ?_
  refine SOps.one rfl (One.callC (i := 1) (H' := fun _ _ => [_, _]) rfl callable47 (.cons rfl (.cons rfl (.nil))) rfl (fun w' hw' => pick_spec (Cur.lent hc (i := 1) rfl hw') (by omega) (by omega)) (fun _ _ => rfl) (fun x1 at1 sd1 ⟨hxl1, hxh1⟩ ha1 hb1 => ?_))
  refine SOps.st rfl rfl (Yv.quoP rfl rfl (by omega) (by omega) (by omega)).yl ?_
  refine SOps.st rfl rfl (Yv.add rfl rfl (by omega)).yl ?_
  refine SOps.st rfl rfl (Yv.cutTo0 ((6 + x1 / 29).toNat) el35 rfl rfl (by omega) (by omega)).yl ?_
  refine SOps.one rfl (One.callC (i := 1) (H' := fun _ _ => [_, _]) rfl callable21 (.cons rfl (.cons rfl (.nil))) rfl (fun w' hw' => among_spec (Cur.lent hc (i := 1) rfl hw') (by omega) (by omega) (l := ([0, 5, 6, 101, 362, 365, (-1), 366].take ((6 + x1 / 29).toNat))) ((Rd.cut0 (xs := [0, 5, 6, 101, 362, 365, (-1), 366]) intC_len (Rd.row (i := 0) rfl) (by omega)) w' hw') (by simp; try omega) (by first | omega | simp) (by first | omega | simp) (fun hm => HOk.rowNe hw' (i := 1) (j := 0) rfl rfl rfl (by first | exact hm | omega))) (fun _ _ => rfl) (fun x2 at2 sd2 hx2 ha2 hb2 => ?_))
  refine SOps.st rfl rfl (Yv.assign rfl).yl ?_
  refine SOps.nil ?_
  refine Run.ret ?_
  refine retQ.of (.inr rfl) rfl (.tmp rfl .nil) (fun w' hw' => ?_)
  exact ⟨_, _, _, rfl, trivial, by omega, by omega, hw'.bel, hw'.ent _ (List.mem_of_getElem? (i := 1) rfl)⟩


theorem notice_spec {w : World} {g m c : Nat} {A : Option Addr} {xs : List UInt8} {at_ sd : Int} {id : Int} (hc : Cur w 48 g A m c xs at_ sd) (h0 : 0 ≤ at_) (h1 : at_ ≤ 5000000000000000000)  : Calls Tryz.prog 20 #[.pointer (some ⟨g, 0, none⟩), .int .i64 id] w (RetC w 48 g (.slice A m c) at_ 16 (fun (x : Notice) => .agg x.enc.toArray) (fun _ => True)) := by
  refine calls_of_run (vs := [_, _]) (L := [(0, _), (1, _)]) (n := 85) (F := [g]) (H := [_]) Tryz.func20 rfl rfl rfl rfl (HOk.lend hc) ?_
  refine Run.seq ?_
  refine Run.ops ?_
  refine SOps.one rfl (One.alloc rfl zero25 (fun b1 => ?_))
  refine SOps.nil ?_
  refine Run.seq ?_
  refine Run.ops ?_
  refine SOps.st rfl rfl (Yv.move rfl).yl ?_
  refine SOps.st rfl rfl (Yv.move rfl).yl ?_
  refine SOps.one rfl (One.callC (i := 1) (H' := fun _ _ => [_, _]) rfl callable47 (.cons rfl (.cons rfl (.nil))) rfl (fun w' hw' => pick_spec (Cur.lent hc (i := 1) rfl hw') (by omega) (by omega)) (fun _ _ => rfl) (fun x1 at1 sd1 ⟨hxl1, hxh1⟩ ha1 hb1 => ?_))
  refine SOps.st rfl rfl (Yv.add rfl rfl (by omega)).yl ?_
  refine SOps.st rfl rfl (Yv.move rfl).yl ?_
  refine SOps.one rfl (One.callC (i := 1) (H' := fun _ _ => [_, _]) rfl callable48 (.cons rfl (.nil)) rfl (fun w' hw' => place17_spec (Cur.lent hc (i := 1) rfl hw') (by omega) (by omega)) (fun _ _ => rfl) (fun x2 at2 sd2 ⟨hxl2, hxh2⟩ ha2 hb2 => ?_))
  refine SOps.st rfl rfl (Yv.move rfl).yl ?_
  refine SOps.one rfl (One.buildSliceG (pv := [(0, _), (1, _), (2, _), (3, _)]) (cs := [_, _, _, _]) (fun l => match l with | [a0_0, a1_0, a2_0, a3_0] => [a0_0, a1_0, a2_0, a3_0] | _ => []) rfl el35 (.cons rfl (.cons rfl (.cons rfl (.cons rfl (.nil))))) rfl rfl (by kernel_rfl) rfl rfl (fun b2 => ?_))
  refine SOps.one rfl (One.callC (i := 2) (H' := fun _ _ => [_, _, _]) rfl callable21 (.cons rfl (.cons rfl (.nil))) rfl (fun w' hw' => among_spec (Cur.lent hc (i := 2) rfl hw') (by omega) (by omega) (l := [0, 5, 100, 360]) ((Rd.row (i := 0) rfl) w' hw') (by simp; try omega) (by first | omega | simp) (by first | omega | simp) (fun hm => HOk.rowNe hw' (i := 2) (j := 0) rfl rfl rfl (by first | exact hm | omega))) (fun _ _ => rfl) (fun x3 at3 sd3 hx3 ha3 hb3 => ?_))
  first | (have hxb3 : -1 ≤ x3 ∧ x3 ≤ 1000 := (by simp at hx3; omega)) | skip
  refine SOps.st rfl rfl (Yv.buildG (pv := [(0, _), (1, _), (2, _), (4, _)]) (cs := [_, _, _, _, _, _, _]) (fun l => match l with | [a0_0, a1_0, a2_0, a3_0] => [a0_0, a1_0, a2_0, .int .i64 0, a3_0, .int .i64 0, .int .i64 0] | _ => []) (.cons rfl (.cons rfl (.cons rfl (.cons rfl (.nil))))) rfl rfl (by kernel_rfl)).yl ?_
  refine SOps.one rfl (One.alloc rfl zero25 (fun b3 => ?_))
  refine SOps.one rfl (One.store (i := 0) (off := 0) (vs := [_, _, _, _, _, _, _]) (cs' := [_, _, _, _, _, _, _]) (H' := [_, _, _, _]) lay25 rfl rfl rfl rfl rfl rfl rfl rfl rfl rfl ?_)
  refine SOps.nil ?_
  refine Run.seqMid (S := Int × Int × Int) (fun s => match s with | (t2, a2, s2) => at_ ≤ a2 ∧ a2 ≤ at_ + 8) (fun s => match s with | (t2, a2, s2) => [(0, .pointer (some ⟨g, 0, none⟩)), (4, .pointer (some ⟨b1, 0, none⟩)), (5, .pointer (some ⟨b3, 0, none⟩))]) (fun s => match s with | (t2, a2, s2) => [.blk b3 25 [.int .i64 id, .int .i64 (1 + x1), .int .i64 x2, .int .i64 t2, .int .i64 x3, .int .i64 0, .int .i64 0], .blk b1 25 [.int .i64 0, .int .i64 0, .int .i64 0, .int .i64 0, .int .i64 0, .int .i64 0, .int .i64 0], .blk g 48 [.slice A m c, .int .i64 a2, .int .u64 s2]]) ?_ ?_
  ·
    refine Run.draws (fun H => ((H).eraseIdx 3).eraseIdx 0) (m := 9) (listed := #[false, false, false, false, false, false, false, false, false]) (by kernel_rfl) rfl rfl ?_
    refine DOps.take (listed' := #[true, false, false, false, false, false, false, false, false]) 0 rfl (by kernel_rfl) rfl (List.Sublist.cons _ (List.Sublist.cons_cons _ (List.Sublist.cons_cons _ (List.nil_sublist _)))) rfl rfl (Yv.fieldAddr fld25_2 rfl) ?_
    refine DOps.take (listed' := #[true, false, true, false, false, false, false, false, false]) 2 rfl (by kernel_rfl) rfl (List.Sublist.cons _ (List.Sublist.cons_cons _ (List.Sublist.cons_cons _ (List.nil_sublist _)))) rfl rfl (Yv.move rfl) ?_
    refine DOps.fork2 (l1 := #[true, true, true, false, false, false, false, false, false]) (l2 := #[true, false, true, true, false, false, false, false, false]) 1 3 rfl rfl (by kernel_rfl) rfl rfl rfl rfl ?_ ?_
    ·
      refine One.st rfl (Yv.loadB (i := 0) lay3 rfl rfl rfl rfl).yl ?_
      refine ⟨(List.Sublist.cons _ (List.Sublist.cons_cons _ (List.Sublist.cons_cons _ (List.nil_sublist _)))), ?_⟩
      refine DOps.only (listed' := #[true, true, true, true, false, false, false, false, false]) 3 rfl (by kernel_rfl) rfl rfl ?_
      refine One.buildSliceG (pv := [(0, _), (1, _), (2, _), (3, _)]) (cs := [_, _, _, _]) (fun l => match l with | [a0_0, a1_0, a2_0, a3_0] => [a0_0, a1_0, a2_0, a3_0] | _ => []) rfl el35 (.cons rfl (.cons rfl (.cons rfl (.cons rfl (.nil))))) rfl rfl (by kernel_rfl) rfl rfl (fun b4 => ?_)
      refine ⟨(List.Sublist.cons _ (List.Sublist.cons _ (List.Sublist.cons_cons _ (List.Sublist.cons_cons _ (List.nil_sublist _))))), ?_⟩
      refine DOps.only (listed' := #[true, true, true, true, true, false, false, false, false]) 4 rfl (by kernel_rfl) rfl rfl ?_
      refine One.callC (i := 4) (H' := fun _ _ => [_, _, _, _, _]) rfl callable21 (.cons rfl (.cons rfl (.nil))) rfl (fun w' hw' => among_spec (Cur.lent hc (i := 4) rfl hw') (by omega) (by omega) (l := [0, 5, 60, 600]) ((Rd.row (i := 0) rfl) w' hw') (by simp; try omega) (by first | omega | simp) (by first | omega | simp) (fun hm => HOk.rowNe hw' (i := 4) (j := 0) rfl rfl rfl (by first | exact hm | omega))) (fun _ _ => rfl) (fun x4 at4 sd4 hx4 ha4 hb4 => ?_)
      first | (have hxb4 : -1 ≤ x4 ∧ x4 ≤ 1000 := (by simp at hx4; omega)) | skip
      refine ⟨(List.Sublist.cons _ (List.Sublist.cons _ (List.Sublist.cons_cons _ (List.Sublist.cons_cons _ (List.nil_sublist _))))), ?_⟩
      refine DOps.take (listed' := #[true, true, true, true, true, true, false, false, false]) 5 rfl (by kernel_rfl) rfl (List.Sublist.cons _ (List.Sublist.cons _ (List.Sublist.cons_cons _ (List.Sublist.cons_cons _ (List.nil_sublist _))))) rfl rfl (Yv.add rfl rfl (by omega)) ?_
      refine DOps.only (listed' := #[true, true, true, true, true, true, true, false, false]) 6 rfl (by kernel_rfl) rfl rfl ?_
      refine One.st rfl (Yl.call callable49 (.cons rfl (.cons rfl (.nil))) (fun w' hw' => l1Least_spec)) ?_
      refine ⟨(List.Sublist.cons _ (List.Sublist.cons _ (List.Sublist.cons_cons _ (List.Sublist.cons_cons _ (List.nil_sublist _))))), ?_⟩
      refine DOps.take (listed' := #[true, true, true, true, true, true, true, true, false]) 7 rfl (by kernel_rfl) rfl (List.Sublist.cons _ (List.Sublist.cons _ (List.Sublist.cons_cons _ (List.Sublist.cons_cons _ (List.nil_sublist _))))) rfl rfl (Yv.fieldAddr fld25_3 rfl) ?_
      refine DOps.only (listed' := #[true, true, true, true, true, true, true, true, true]) 8 rfl (by kernel_rfl) rfl rfl ?_
      refine One.store (i := 1) (off := 3) (vs := [_]) (cs' := [_, _, _, _, _, _, _]) (H' := [_, _, _, _, _]) lay3 rfl rfl rfl rfl rfl rfl rfl rfl rfl rfl ?_
      refine ⟨(List.Sublist.cons _ (List.Sublist.cons _ (List.Sublist.cons_cons _ (List.Sublist.cons_cons _ (List.nil_sublist _))))), ?_⟩
      refine DOps.done (by kernel_rfl) ?_
      refine ⟨(_, _, _), ?_, (SubE.cons rfl (SubE.cons rfl (SubE.cons rfl (SubE.nil _)))), (List.Sublist.cons _ (List.Sublist.cons_cons _ (List.Sublist.cons _ (List.Sublist.refl _))))⟩
      · exact ⟨by omega, by omega⟩
    ·
      refine One.buildSliceG (pv := [(0, _), (1, _), (2, _), (3, _)]) (cs := [_, _, _, _]) (fun l => match l with | [a0_0, a1_0, a2_0, a3_0] => [a0_0, a1_0, a2_0, a3_0] | _ => []) rfl el35 (.cons rfl (.cons rfl (.cons rfl (.cons rfl (.nil))))) rfl rfl (by kernel_rfl) rfl rfl (fun b4 => ?_)
      refine ⟨(List.Sublist.cons _ (List.Sublist.cons _ (List.Sublist.cons_cons _ (List.Sublist.cons_cons _ (List.nil_sublist _))))), ?_⟩
      refine DOps.fork2 (l1 := #[true, true, true, true, false, false, false, false, false]) (l2 := #[true, false, true, true, true, false, false, false, false]) 1 4 rfl rfl (by kernel_rfl) rfl rfl rfl rfl ?_ ?_
      ·
        refine One.st rfl (Yv.loadB (i := 1) lay3 rfl rfl rfl rfl).yl ?_
        refine ⟨(List.Sublist.cons _ (List.Sublist.cons _ (List.Sublist.cons_cons _ (List.Sublist.cons_cons _ (List.nil_sublist _))))), ?_⟩
        refine DOps.only (listed' := #[true, true, true, true, true, false, false, false, false]) 4 rfl (by kernel_rfl) rfl rfl ?_
        refine One.callC (i := 4) (H' := fun _ _ => [_, _, _, _, _]) rfl callable21 (.cons rfl (.cons rfl (.nil))) rfl (fun w' hw' => among_spec (Cur.lent hc (i := 4) rfl hw') (by omega) (by omega) (l := [0, 5, 60, 600]) ((Rd.row (i := 0) rfl) w' hw') (by simp; try omega) (by first | omega | simp) (by first | omega | simp) (fun hm => HOk.rowNe hw' (i := 4) (j := 0) rfl rfl rfl (by first | exact hm | omega))) (fun _ _ => rfl) (fun x4 at4 sd4 hx4 ha4 hb4 => ?_)
        first | (have hxb4 : -1 ≤ x4 ∧ x4 ≤ 1000 := (by simp at hx4; omega)) | skip
        refine ⟨(List.Sublist.cons _ (List.Sublist.cons _ (List.Sublist.cons_cons _ (List.Sublist.cons_cons _ (List.nil_sublist _))))), ?_⟩
        refine DOps.take (listed' := #[true, true, true, true, true, true, false, false, false]) 5 rfl (by kernel_rfl) rfl (List.Sublist.cons _ (List.Sublist.cons _ (List.Sublist.cons_cons _ (List.Sublist.cons_cons _ (List.nil_sublist _))))) rfl rfl (Yv.add rfl rfl (by omega)) ?_
        refine DOps.only (listed' := #[true, true, true, true, true, true, true, false, false]) 6 rfl (by kernel_rfl) rfl rfl ?_
        refine One.st rfl (Yl.call callable49 (.cons rfl (.cons rfl (.nil))) (fun w' hw' => l1Least_spec)) ?_
        refine ⟨(List.Sublist.cons _ (List.Sublist.cons _ (List.Sublist.cons_cons _ (List.Sublist.cons_cons _ (List.nil_sublist _))))), ?_⟩
        refine DOps.take (listed' := #[true, true, true, true, true, true, true, true, false]) 7 rfl (by kernel_rfl) rfl (List.Sublist.cons _ (List.Sublist.cons _ (List.Sublist.cons_cons _ (List.Sublist.cons_cons _ (List.nil_sublist _))))) rfl rfl (Yv.fieldAddr fld25_3 rfl) ?_
        refine DOps.only (listed' := #[true, true, true, true, true, true, true, true, true]) 8 rfl (by kernel_rfl) rfl rfl ?_
        refine One.store (i := 1) (off := 3) (vs := [_]) (cs' := [_, _, _, _, _, _, _]) (H' := [_, _, _, _, _]) lay3 rfl rfl rfl rfl rfl rfl rfl rfl rfl rfl ?_
        refine ⟨(List.Sublist.cons _ (List.Sublist.cons _ (List.Sublist.cons_cons _ (List.Sublist.cons_cons _ (List.nil_sublist _))))), ?_⟩
        refine DOps.done (by kernel_rfl) ?_
        refine ⟨(_, _, _), ?_, (SubE.cons rfl (SubE.cons rfl (SubE.cons rfl (SubE.nil _)))), (List.Sublist.cons _ (List.Sublist.cons_cons _ (List.Sublist.cons _ (List.Sublist.refl _))))⟩
        · exact ⟨by omega, by omega⟩
      ·
        refine One.callC (i := 4) (H' := fun _ _ => [_, _, _, _, _]) rfl callable21 (.cons rfl (.cons rfl (.nil))) rfl (fun w' hw' => among_spec (Cur.lent hc (i := 4) rfl hw') (by omega) (by omega) (l := [0, 5, 60, 600]) ((Rd.row (i := 0) rfl) w' hw') (by simp; try omega) (by first | omega | simp) (by first | omega | simp) (fun hm => HOk.rowNe hw' (i := 4) (j := 0) rfl rfl rfl (by first | exact hm | omega))) (fun _ _ => rfl) (fun x4 at4 sd4 hx4 ha4 hb4 => ?_)
        first | (have hxb4 : -1 ≤ x4 ∧ x4 ≤ 1000 := (by simp at hx4; omega)) | skip
        refine ⟨(List.Sublist.cons _ (List.Sublist.cons _ (List.Sublist.cons_cons _ (List.Sublist.cons_cons _ (List.nil_sublist _))))), ?_⟩
        refine DOps.only (listed' := #[true, true, true, true, true, false, false, false, false]) 1 rfl (by kernel_rfl) rfl rfl ?_
        refine One.st rfl (Yv.loadB (i := 1) lay3 rfl rfl rfl rfl).yl ?_
        refine ⟨(List.Sublist.cons _ (List.Sublist.cons _ (List.Sublist.cons_cons _ (List.Sublist.cons_cons _ (List.nil_sublist _))))), ?_⟩
        refine DOps.take (listed' := #[true, true, true, true, true, true, false, false, false]) 5 rfl (by kernel_rfl) rfl (List.Sublist.cons _ (List.Sublist.cons _ (List.Sublist.cons_cons _ (List.Sublist.cons_cons _ (List.nil_sublist _))))) rfl rfl (Yv.add rfl rfl (by omega)) ?_
        refine DOps.only (listed' := #[true, true, true, true, true, true, true, false, false]) 6 rfl (by kernel_rfl) rfl rfl ?_
        refine One.st rfl (Yl.call callable49 (.cons rfl (.cons rfl (.nil))) (fun w' hw' => l1Least_spec)) ?_
        refine ⟨(List.Sublist.cons _ (List.Sublist.cons _ (List.Sublist.cons_cons _ (List.Sublist.cons_cons _ (List.nil_sublist _))))), ?_⟩
        refine DOps.take (listed' := #[true, true, true, true, true, true, true, true, false]) 7 rfl (by kernel_rfl) rfl (List.Sublist.cons _ (List.Sublist.cons _ (List.Sublist.cons_cons _ (List.Sublist.cons_cons _ (List.nil_sublist _))))) rfl rfl (Yv.fieldAddr fld25_3 rfl) ?_
        refine DOps.only (listed' := #[true, true, true, true, true, true, true, true, true]) 8 rfl (by kernel_rfl) rfl rfl ?_
        refine One.store (i := 1) (off := 3) (vs := [_]) (cs' := [_, _, _, _, _, _, _]) (H' := [_, _, _, _, _]) lay3 rfl rfl rfl rfl rfl rfl rfl rfl rfl rfl ?_
        refine ⟨(List.Sublist.cons _ (List.Sublist.cons _ (List.Sublist.cons_cons _ (List.Sublist.cons_cons _ (List.nil_sublist _))))), ?_⟩
        refine DOps.done (by kernel_rfl) ?_
        refine ⟨(_, _, _), ?_, (SubE.cons rfl (SubE.cons rfl (SubE.cons rfl (SubE.nil _)))), (List.Sublist.cons _ (List.Sublist.cons_cons _ (List.Sublist.cons _ (List.Sublist.refl _))))⟩
        · exact ⟨by omega, by omega⟩
  · rintro ⟨t2, a2, s2⟩ ⟨ha2l, ha2h⟩
    show Run _ _ _ _ _ [(0, .pointer (some ⟨g, 0, none⟩)), (4, .pointer (some ⟨b1, 0, none⟩)), (5, .pointer (some ⟨b3, 0, none⟩))] [.blk b3 25 [.int .i64 id, .int .i64 (1 + x1), .int .i64 x2, .int .i64 t2, .int .i64 x3, .int .i64 0, .int .i64 0], .blk b1 25 [.int .i64 0, .int .i64 0, .int .i64 0, .int .i64 0, .int .i64 0, .int .i64 0, .int .i64 0], .blk g 48 [.slice A m c, .int .i64 a2, .int .u64 s2]] _
    refine Run.seqMid (S := Int × Int × Int) (fun s => match s with | (l3, a3, s3) => at_ ≤ a3 ∧ a3 ≤ at_ + 10) (fun s => match s with | (l3, a3, s3) => [(0, .pointer (some ⟨g, 0, none⟩)), (4, .pointer (some ⟨b1, 0, none⟩)), (5, .pointer (some ⟨b3, 0, none⟩))]) (fun s => match s with | (l3, a3, s3) => [.blk b3 25 [.int .i64 id, .int .i64 (1 + x1), .int .i64 x2, .int .i64 t2, .int .i64 x3, .int .i64 l3, .int .i64 0], .blk b1 25 [.int .i64 0, .int .i64 0, .int .i64 0, .int .i64 0, .int .i64 0, .int .i64 0, .int .i64 0], .blk g 48 [.slice A m c, .int .i64 a3, .int .u64 s3]]) ?_ ?_
    ·
      refine Run.draws (fun H => ((H).eraseIdx 2).eraseIdx 0) (m := 9) (listed := #[false, false, false, false, false, false, false, false, false]) (by kernel_rfl) rfl rfl ?_
      refine DOps.take (listed' := #[true, false, false, false, false, false, false, false, false]) 0 rfl (by kernel_rfl) rfl (List.Sublist.cons _ (List.Sublist.cons_cons _ (List.nil_sublist _))) rfl rfl (Yv.fieldAddr fld25_4 rfl) ?_
      refine DOps.take (listed' := #[true, false, true, false, false, false, false, false, false]) 2 rfl (by kernel_rfl) rfl (List.Sublist.cons _ (List.Sublist.cons_cons _ (List.nil_sublist _))) rfl rfl (Yv.move rfl) ?_
      refine DOps.fork2 (l1 := #[true, true, true, false, false, false, false, false, false]) (l2 := #[true, false, true, true, false, false, false, false, false]) 1 3 rfl rfl (by kernel_rfl) rfl rfl rfl rfl ?_ ?_
      ·
        refine One.st rfl (Yv.loadB (i := 0) lay3 rfl rfl rfl rfl).yl ?_
        refine ⟨(List.Sublist.cons _ (List.Sublist.cons_cons _ (List.nil_sublist _))), ?_⟩
        refine DOps.only (listed' := #[true, true, true, true, false, false, false, false, false]) 3 rfl (by kernel_rfl) rfl rfl ?_
        refine One.buildSliceG (pv := [(0, _), (1, _), (2, _), (3, _)]) (cs := [_, _, _, _]) (fun l => match l with | [a0_0, a1_0, a2_0, a3_0] => [a0_0, a1_0, a2_0, a3_0] | _ => []) rfl el35 (.cons rfl (.cons rfl (.cons rfl (.cons rfl (.nil))))) rfl rfl (by kernel_rfl) rfl rfl (fun b5 => ?_)
        refine ⟨(List.Sublist.cons _ (List.Sublist.cons _ (List.Sublist.cons_cons _ (List.nil_sublist _)))), ?_⟩
        refine DOps.only (listed' := #[true, true, true, true, true, false, false, false, false]) 4 rfl (by kernel_rfl) rfl rfl ?_
        refine One.callC (i := 3) (H' := fun _ _ => [_, _, _, _]) rfl callable21 (.cons rfl (.cons rfl (.nil))) rfl (fun w' hw' => among_spec (Cur.lent hc (i := 3) rfl hw') (by omega) (by omega) (l := [0, 1, 10, 300]) ((Rd.row (i := 0) rfl) w' hw') (by simp; try omega) (by first | omega | simp) (by first | omega | simp) (fun hm => HOk.rowNe hw' (i := 3) (j := 0) rfl rfl rfl (by first | exact hm | omega))) (fun _ _ => rfl) (fun x5 at5 sd5 hx5 ha5 hb5 => ?_)
        first | (have hxb5 : -1 ≤ x5 ∧ x5 ≤ 1000 := (by simp at hx5; omega)) | skip
        refine ⟨(List.Sublist.cons _ (List.Sublist.cons _ (List.Sublist.cons_cons _ (List.nil_sublist _)))), ?_⟩
        refine DOps.take (listed' := #[true, true, true, true, true, true, false, false, false]) 5 rfl (by kernel_rfl) rfl (List.Sublist.cons _ (List.Sublist.cons _ (List.Sublist.cons_cons _ (List.nil_sublist _)))) rfl rfl (Yv.add rfl rfl (by omega)) ?_
        refine DOps.only (listed' := #[true, true, true, true, true, true, true, false, false]) 6 rfl (by kernel_rfl) rfl rfl ?_
        refine One.st rfl (Yl.call callable49 (.cons rfl (.cons rfl (.nil))) (fun w' hw' => l1Least_spec)) ?_
        refine ⟨(List.Sublist.cons _ (List.Sublist.cons _ (List.Sublist.cons_cons _ (List.nil_sublist _)))), ?_⟩
        refine DOps.take (listed' := #[true, true, true, true, true, true, true, true, false]) 7 rfl (by kernel_rfl) rfl (List.Sublist.cons _ (List.Sublist.cons _ (List.Sublist.cons_cons _ (List.nil_sublist _)))) rfl rfl (Yv.fieldAddr fld25_5 rfl) ?_
        refine DOps.only (listed' := #[true, true, true, true, true, true, true, true, true]) 8 rfl (by kernel_rfl) rfl rfl ?_
        refine One.store (i := 1) (off := 5) (vs := [_]) (cs' := [_, _, _, _, _, _, _]) (H' := [_, _, _, _]) lay3 rfl rfl rfl rfl rfl rfl rfl rfl rfl rfl ?_
        refine ⟨(List.Sublist.cons _ (List.Sublist.cons _ (List.Sublist.cons_cons _ (List.nil_sublist _)))), ?_⟩
        refine DOps.done (by kernel_rfl) ?_
        refine ⟨(_, _, _), ?_, (SubE.cons rfl (SubE.cons rfl (SubE.cons rfl (SubE.nil _)))), (List.Sublist.cons _ (List.Sublist.refl _))⟩
        · exact ⟨by omega, by omega⟩
      ·
        refine One.buildSliceG (pv := [(0, _), (1, _), (2, _), (3, _)]) (cs := [_, _, _, _]) (fun l => match l with | [a0_0, a1_0, a2_0, a3_0] => [a0_0, a1_0, a2_0, a3_0] | _ => []) rfl el35 (.cons rfl (.cons rfl (.cons rfl (.cons rfl (.nil))))) rfl rfl (by kernel_rfl) rfl rfl (fun b5 => ?_)
        refine ⟨(List.Sublist.cons _ (List.Sublist.cons _ (List.Sublist.cons_cons _ (List.nil_sublist _)))), ?_⟩
        refine DOps.fork2 (l1 := #[true, true, true, true, false, false, false, false, false]) (l2 := #[true, false, true, true, true, false, false, false, false]) 1 4 rfl rfl (by kernel_rfl) rfl rfl rfl rfl ?_ ?_
        ·
          refine One.st rfl (Yv.loadB (i := 1) lay3 rfl rfl rfl rfl).yl ?_
          refine ⟨(List.Sublist.cons _ (List.Sublist.cons _ (List.Sublist.cons_cons _ (List.nil_sublist _)))), ?_⟩
          refine DOps.only (listed' := #[true, true, true, true, true, false, false, false, false]) 4 rfl (by kernel_rfl) rfl rfl ?_
          refine One.callC (i := 3) (H' := fun _ _ => [_, _, _, _]) rfl callable21 (.cons rfl (.cons rfl (.nil))) rfl (fun w' hw' => among_spec (Cur.lent hc (i := 3) rfl hw') (by omega) (by omega) (l := [0, 1, 10, 300]) ((Rd.row (i := 0) rfl) w' hw') (by simp; try omega) (by first | omega | simp) (by first | omega | simp) (fun hm => HOk.rowNe hw' (i := 3) (j := 0) rfl rfl rfl (by first | exact hm | omega))) (fun _ _ => rfl) (fun x5 at5 sd5 hx5 ha5 hb5 => ?_)
          first | (have hxb5 : -1 ≤ x5 ∧ x5 ≤ 1000 := (by simp at hx5; omega)) | skip
          refine ⟨(List.Sublist.cons _ (List.Sublist.cons _ (List.Sublist.cons_cons _ (List.nil_sublist _)))), ?_⟩
          refine DOps.take (listed' := #[true, true, true, true, true, true, false, false, false]) 5 rfl (by kernel_rfl) rfl (List.Sublist.cons _ (List.Sublist.cons _ (List.Sublist.cons_cons _ (List.nil_sublist _)))) rfl rfl (Yv.add rfl rfl (by omega)) ?_
          refine DOps.only (listed' := #[true, true, true, true, true, true, true, false, false]) 6 rfl (by kernel_rfl) rfl rfl ?_
          refine One.st rfl (Yl.call callable49 (.cons rfl (.cons rfl (.nil))) (fun w' hw' => l1Least_spec)) ?_
          refine ⟨(List.Sublist.cons _ (List.Sublist.cons _ (List.Sublist.cons_cons _ (List.nil_sublist _)))), ?_⟩
          refine DOps.take (listed' := #[true, true, true, true, true, true, true, true, false]) 7 rfl (by kernel_rfl) rfl (List.Sublist.cons _ (List.Sublist.cons _ (List.Sublist.cons_cons _ (List.nil_sublist _)))) rfl rfl (Yv.fieldAddr fld25_5 rfl) ?_
          refine DOps.only (listed' := #[true, true, true, true, true, true, true, true, true]) 8 rfl (by kernel_rfl) rfl rfl ?_
          refine One.store (i := 1) (off := 5) (vs := [_]) (cs' := [_, _, _, _, _, _, _]) (H' := [_, _, _, _]) lay3 rfl rfl rfl rfl rfl rfl rfl rfl rfl rfl ?_
          refine ⟨(List.Sublist.cons _ (List.Sublist.cons _ (List.Sublist.cons_cons _ (List.nil_sublist _)))), ?_⟩
          refine DOps.done (by kernel_rfl) ?_
          refine ⟨(_, _, _), ?_, (SubE.cons rfl (SubE.cons rfl (SubE.cons rfl (SubE.nil _)))), (List.Sublist.cons _ (List.Sublist.refl _))⟩
          · exact ⟨by omega, by omega⟩
        ·
          refine One.callC (i := 3) (H' := fun _ _ => [_, _, _, _]) rfl callable21 (.cons rfl (.cons rfl (.nil))) rfl (fun w' hw' => among_spec (Cur.lent hc (i := 3) rfl hw') (by omega) (by omega) (l := [0, 1, 10, 300]) ((Rd.row (i := 0) rfl) w' hw') (by simp; try omega) (by first | omega | simp) (by first | omega | simp) (fun hm => HOk.rowNe hw' (i := 3) (j := 0) rfl rfl rfl (by first | exact hm | omega))) (fun _ _ => rfl) (fun x5 at5 sd5 hx5 ha5 hb5 => ?_)
          first | (have hxb5 : -1 ≤ x5 ∧ x5 ≤ 1000 := (by simp at hx5; omega)) | skip
          refine ⟨(List.Sublist.cons _ (List.Sublist.cons _ (List.Sublist.cons_cons _ (List.nil_sublist _)))), ?_⟩
          refine DOps.only (listed' := #[true, true, true, true, true, false, false, false, false]) 1 rfl (by kernel_rfl) rfl rfl ?_
          refine One.st rfl (Yv.loadB (i := 1) lay3 rfl rfl rfl rfl).yl ?_
          refine ⟨(List.Sublist.cons _ (List.Sublist.cons _ (List.Sublist.cons_cons _ (List.nil_sublist _)))), ?_⟩
          refine DOps.take (listed' := #[true, true, true, true, true, true, false, false, false]) 5 rfl (by kernel_rfl) rfl (List.Sublist.cons _ (List.Sublist.cons _ (List.Sublist.cons_cons _ (List.nil_sublist _)))) rfl rfl (Yv.add rfl rfl (by omega)) ?_
          refine DOps.only (listed' := #[true, true, true, true, true, true, true, false, false]) 6 rfl (by kernel_rfl) rfl rfl ?_
          refine One.st rfl (Yl.call callable49 (.cons rfl (.cons rfl (.nil))) (fun w' hw' => l1Least_spec)) ?_
          refine ⟨(List.Sublist.cons _ (List.Sublist.cons _ (List.Sublist.cons_cons _ (List.nil_sublist _)))), ?_⟩
          refine DOps.take (listed' := #[true, true, true, true, true, true, true, true, false]) 7 rfl (by kernel_rfl) rfl (List.Sublist.cons _ (List.Sublist.cons _ (List.Sublist.cons_cons _ (List.nil_sublist _)))) rfl rfl (Yv.fieldAddr fld25_5 rfl) ?_
          refine DOps.only (listed' := #[true, true, true, true, true, true, true, true, true]) 8 rfl (by kernel_rfl) rfl rfl ?_
          refine One.store (i := 1) (off := 5) (vs := [_]) (cs' := [_, _, _, _, _, _, _]) (H' := [_, _, _, _]) lay3 rfl rfl rfl rfl rfl rfl rfl rfl rfl rfl ?_
          refine ⟨(List.Sublist.cons _ (List.Sublist.cons _ (List.Sublist.cons_cons _ (List.nil_sublist _)))), ?_⟩
          refine DOps.done (by kernel_rfl) ?_
          refine ⟨(_, _, _), ?_, (SubE.cons rfl (SubE.cons rfl (SubE.cons rfl (SubE.nil _)))), (List.Sublist.cons _ (List.Sublist.refl _))⟩
          · exact ⟨by omega, by omega⟩
    · rintro ⟨l3, a3, s3⟩ ⟨ha3l, ha3h⟩
      show Run _ _ _ _ _ [(0, .pointer (some ⟨g, 0, none⟩)), (4, .pointer (some ⟨b1, 0, none⟩)), (5, .pointer (some ⟨b3, 0, none⟩))] [.blk b3 25 [.int .i64 id, .int .i64 (1 + x1), .int .i64 x2, .int .i64 t2, .int .i64 x3, .int .i64 l3, .int .i64 0], .blk b1 25 [.int .i64 0, .int .i64 0, .int .i64 0, .int .i64 0, .int .i64 0, .int .i64 0, .int .i64 0], .blk g 48 [.slice A m c, .int .i64 a3, .int .u64 s3]] _
      refine Run.seqMid (S := Int × Int × Int) (fun s => match s with | (v4, a4, s4) => at_ ≤ a4 ∧ a4 ≤ at_ + 12) (fun s => match s with | (v4, a4, s4) => [(0, .pointer (some ⟨g, 0, none⟩)), (4, .pointer (some ⟨b1, 0, none⟩)), (5, .pointer (some ⟨b3, 0, none⟩))]) (fun s => match s with | (v4, a4, s4) => [.blk b3 25 [.int .i64 id, .int .i64 (1 + x1), .int .i64 x2, .int .i64 t2, .int .i64 x3, .int .i64 l3, .int .i64 v4], .blk b1 25 [.int .i64 0, .int .i64 0, .int .i64 0, .int .i64 0, .int .i64 0, .int .i64 0, .int .i64 0], .blk g 48 [.slice A m c, .int .i64 a4, .int .u64 s4]]) ?_ ?_
      ·
        refine Run.seq ?_
        refine Run.quiet (by intro h; cases h) ?_
        refine QOps.st rfl rfl (Yv.fieldAddr fld25_1 rfl).yl ?_
        refine QOps.st rfl rfl (Yv.loadB (i := 0) lay3 rfl rfl rfl rfl).yl ?_
        refine QOps.nil ?_
        refine Run.block ?_
        refine Run.seq ?_
        refine Run.quiet (by intro h; cases h) ?_
        refine QOps.st rfl rfl (Yv.eqI rfl rfl).yl ?_
        refine QOps.st rfl rfl (Yv.assign rfl).yl ?_
        refine QOps.nil ?_
        refine Run.cond rfl (fun hc1 => ?_) (fun hc1 => ?_)
        · try replace hc1 := of_decide_eq_true hc1
          refine Run.ops ?_
          refine SOps.st rfl rfl (Yv.move rfl).yl ?_
          refine SOps.one rfl (One.buildSliceG (pv := [(0, _), (1, _), (2, _), (3, _)]) (cs := [_, _, _, _]) (fun l => match l with | [a0_0, a1_0, a2_0, a3_0] => [a0_0, a1_0, a2_0, a3_0] | _ => []) rfl el35 (.cons rfl (.cons rfl (.cons rfl (.cons rfl (.nil))))) rfl rfl (by kernel_rfl) rfl rfl (fun b6 => ?_))
          refine SOps.one rfl (One.callC (i := 3) (H' := fun _ _ => [_, _, _, _]) rfl callable21 (.cons rfl (.cons rfl (.nil))) rfl (fun w' hw' => among_spec (Cur.lent hc (i := 3) rfl hw') (by omega) (by omega) (l := [0, 150, 250, 900]) ((Rd.row (i := 0) rfl) w' hw') (by simp; try omega) (by first | omega | simp) (by first | omega | simp) (fun hm => HOk.rowNe hw' (i := 3) (j := 0) rfl rfl rfl (by first | exact hm | omega))) (fun _ _ => rfl) (fun x6 at6 sd6 hx6 ha6 hb6 => ?_))
          first | (have hxb6 : -1 ≤ x6 ∧ x6 ≤ 1000 := (by simp at hx6; omega)) | skip
          refine SOps.st rfl rfl (Yv.fieldAddr fld25_6 rfl).yl ?_
          refine SOps.one rfl (One.store (i := 1) (off := 6) (vs := [_]) (cs' := [_, _, _, _, _, _, _]) (H' := [_, _, _, _]) lay3 rfl rfl rfl rfl rfl rfl rfl rfl rfl rfl ?_)
          refine SOps.nil ?_
          refine ⟨(_, _, _), ?_, (SubE.cons rfl (SubE.cons rfl (SubE.cons rfl (SubE.nil _)))), (List.Sublist.cons _ (List.Sublist.refl _))⟩
          · exact ⟨by omega, by omega⟩
        · try replace hc1 := of_decide_eq_false hc1
          refine Run.seq ?_
          refine Run.quiet (by intro h; cases h) ?_
          refine QOps.st rfl rfl (Yv.eqI rfl rfl).yl ?_
          refine QOps.st rfl rfl (Yv.assign rfl).yl ?_
          refine QOps.nil ?_
          refine Run.cond rfl (fun hc2 => ?_) (fun hc2 => ?_)
          · try replace hc2 := of_decide_eq_true hc2
            refine Run.ops ?_
            refine SOps.st rfl rfl (Yv.move rfl).yl ?_
            refine SOps.one rfl (One.buildSliceG (pv := [(0, _), (1, _), (2, _), (3, _)]) (cs := [_, _, _, _]) (fun l => match l with | [a0_0, a1_0, a2_0, a3_0] => [a0_0, a1_0, a2_0, a3_0] | _ => []) rfl el35 (.cons rfl (.cons rfl (.cons rfl (.cons rfl (.nil))))) rfl rfl (by kernel_rfl) rfl rfl (fun b7 => ?_))
            refine SOps.one rfl (One.callC (i := 3) (H' := fun _ _ => [_, _, _, _]) rfl callable21 (.cons rfl (.cons rfl (.nil))) rfl (fun w' hw' => among_spec (Cur.lent hc (i := 3) rfl hw') (by omega) (by omega) (l := [1, 5, 12, 20]) ((Rd.row (i := 0) rfl) w' hw') (by simp; try omega) (by first | omega | simp) (by first | omega | simp) (fun hm => HOk.rowNe hw' (i := 3) (j := 0) rfl rfl rfl (by first | exact hm | omega))) (fun _ _ => rfl) (fun x7 at7 sd7 hx7 ha7 hb7 => ?_))
            first | (have hxb7 : -1 ≤ x7 ∧ x7 ≤ 1000 := (by simp at hx7; omega)) | skip
            refine SOps.st rfl rfl (Yv.fieldAddr fld25_6 rfl).yl ?_
            refine SOps.one rfl (One.store (i := 1) (off := 6) (vs := [_]) (cs' := [_, _, _, _, _, _, _]) (H' := [_, _, _, _]) lay3 rfl rfl rfl rfl rfl rfl rfl rfl rfl rfl ?_)
            refine SOps.nil ?_
            refine ⟨(_, _, _), ?_, (SubE.cons rfl (SubE.cons rfl (SubE.cons rfl (SubE.nil _)))), (List.Sublist.cons _ (List.Sublist.refl _))⟩
            · exact ⟨by omega, by omega⟩
          · try replace hc2 := of_decide_eq_false hc2
            refine Run.skip ?_
            refine ⟨(_, _, _), ?_, (SubE.cons rfl (SubE.cons rfl (SubE.cons rfl (SubE.nil _)))), (List.Sublist.refl _)⟩
            · exact ⟨by omega, by omega⟩
      · rintro ⟨v4, a4, s4⟩ ⟨ha4l, ha4h⟩
        show Run _ _ _ _ _ [(0, .pointer (some ⟨g, 0, none⟩)), (4, .pointer (some ⟨b1, 0, none⟩)), (5, .pointer (some ⟨b3, 0, none⟩))] [.blk b3 25 [.int .i64 id, .int .i64 (1 + x1), .int .i64 x2, .int .i64 t2, .int .i64 x3, .int .i64 l3, .int .i64 v4], .blk b1 25 [.int .i64 0, .int .i64 0, .int .i64 0, .int .i64 0, .int .i64 0, .int .i64 0, .int .i64 0], .blk g 48 [.slice A m c, .int .i64 a4, .int .u64 s4]] _
        refine Run.seq ?_
        refine Run.seq ?_
        refine Run.ops ?_
        refine SOps.st rfl rfl (Yv.move rfl).yl ?_
        refine SOps.one rfl (One.callC (i := 2) (H' := fun _ _ => [_, _, _]) rfl callable47 (.cons rfl (.cons rfl (.nil))) rfl (fun w' hw' => pick_spec (Cur.lent hc (i := 2) rfl hw') (by omega) (by omega)) (fun _ _ => rfl) (fun x8 at8 sd8 ⟨hxl8, hxh8⟩ ha8 hb8 => ?_))
        refine SOps.nil ?_
        refine Run.block ?_
        refine Run.seq ?_
        refine Run.quiet (by intro h; cases h) ?_
        refine QOps.st rfl rfl (Yv.eqI rfl rfl).yl ?_
        refine QOps.st rfl rfl (Yv.assign rfl).yl ?_
        refine QOps.nil ?_
        refine Run.cond rfl (fun hc3 => ?_) (fun hc3 => ?_)
        · try replace hc3 := of_decide_eq_true hc3
          refine Run.ops ?_
          refine SOps.st rfl rfl (Yv.move rfl).yl ?_
          refine SOps.one rfl (One.buildSliceG (pv := [(0, _), (1, _), (2, _)]) (cs := [_, _, _]) (fun l => match l with | [a0_0, a1_0, a2_0] => [a0_0, a1_0, a2_0] | _ => []) rfl el35 (.cons rfl (.cons rfl (.cons rfl (.nil)))) rfl rfl (by kernel_rfl) rfl rfl (fun b8 => ?_))
          refine SOps.one rfl (One.callC (i := 3) (H' := fun _ _ => [_, _, _, _]) rfl callable21 (.cons rfl (.cons rfl (.nil))) rfl (fun w' hw' => among_spec (Cur.lent hc (i := 3) rfl hw') (by omega) (by omega) (l := [0, 999, 1000]) ((Rd.row (i := 0) rfl) w' hw') (by simp; try omega) (by first | omega | simp) (by first | omega | simp) (fun hm => HOk.rowNe hw' (i := 3) (j := 0) rfl rfl rfl (by first | exact hm | omega))) (fun _ _ => rfl) (fun x9 at9 sd9 hx9 ha9 hb9 => ?_))
          first | (have hxb9 : -1 ≤ x9 ∧ x9 ≤ 1000 := (by simp at hx9; omega)) | skip
          refine SOps.st rfl rfl (Yv.fieldAddr fld25_0 rfl).yl ?_
          refine SOps.one rfl (One.store (i := 1) (off := 0) (vs := [_]) (cs' := [_, _, _, _, _, _, _]) (H' := [_, _, _, _]) lay3 rfl rfl rfl rfl rfl rfl rfl rfl rfl rfl ?_)
          refine SOps.nil ?_
          refine Run.seq ?_
          refine Run.ops ?_
          refine SOps.st rfl rfl (Yv.loadBs (i := 1) lay25 rfl rfl rfl rfl).yl ?_
          refine SOps.one rfl (One.store (i := 2) (off := 0) (vs := [_, _, _, _, _, _, _]) (cs' := [_, _, _, _, _, _, _]) (H' := [_, _, _, _]) lay25 rfl rfl rfl rfl rfl rfl rfl rfl rfl rfl ?_)
          refine SOps.nil ?_
          refine Run.ret ?_
          refine retQ.of (.inr rfl) rfl (.cells (i := 2) rfl lay25 rfl rfl .nil) (fun w' hw' => ?_)
          exact ⟨⟨x9, (1 + x1), x2, t2, x3, l3, v4⟩, _, _, rfl, trivial, by omega, by omega, hw'.bel, hw'.ent _ (List.mem_of_getElem? (i := 3) rfl)⟩
        · try replace hc3 := of_decide_eq_false hc3
          refine Run.seq ?_
          refine Run.quiet (by intro h; cases h) ?_
          refine QOps.st rfl rfl (Yv.eqI rfl rfl).yl ?_
          refine QOps.st rfl rfl (Yv.assign rfl).yl ?_
          refine QOps.nil ?_
          refine Run.cond rfl (fun hc4 => ?_) (fun hc4 => ?_)
          · try replace hc4 := of_decide_eq_true hc4
            refine Run.ops ?_
            refine SOps.st rfl rfl (Yv.move rfl).yl ?_
            refine SOps.one rfl (One.buildSliceG (pv := [(0, _), (1, _), (2, _)]) (cs := [_, _, _]) (fun l => match l with | [a0_0, a1_0, a2_0] => [a0_0, a1_0, a2_0] | _ => []) rfl el35 (.cons rfl (.cons rfl (.cons rfl (.nil)))) rfl rfl (by kernel_rfl) rfl rfl (fun b9 => ?_))
            refine SOps.one rfl (One.callC (i := 3) (H' := fun _ _ => [_, _, _, _]) rfl callable21 (.cons rfl (.cons rfl (.nil))) rfl (fun w' hw' => among_spec (Cur.lent hc (i := 3) rfl hw') (by omega) (by omega) (l := [0, 4, 1]) ((Rd.row (i := 0) rfl) w' hw') (by simp; try omega) (by first | omega | simp) (by first | omega | simp) (fun hm => HOk.rowNe hw' (i := 3) (j := 0) rfl rfl rfl (by first | exact hm | omega))) (fun _ _ => rfl) (fun x10 at10 sd10 hx10 ha10 hb10 => ?_))
            first | (have hxb10 : -1 ≤ x10 ∧ x10 ≤ 1000 := (by simp at hx10; omega)) | skip
            refine SOps.st rfl rfl (Yv.fieldAddr fld25_1 rfl).yl ?_
            refine SOps.one rfl (One.store (i := 1) (off := 1) (vs := [_]) (cs' := [_, _, _, _, _, _, _]) (H' := [_, _, _, _]) lay3 rfl rfl rfl rfl rfl rfl rfl rfl rfl rfl ?_)
            refine SOps.nil ?_
            refine Run.seq ?_
            refine Run.ops ?_
            refine SOps.st rfl rfl (Yv.loadBs (i := 1) lay25 rfl rfl rfl rfl).yl ?_
            refine SOps.one rfl (One.store (i := 2) (off := 0) (vs := [_, _, _, _, _, _, _]) (cs' := [_, _, _, _, _, _, _]) (H' := [_, _, _, _]) lay25 rfl rfl rfl rfl rfl rfl rfl rfl rfl rfl ?_)
            refine SOps.nil ?_
            refine Run.ret ?_
            refine retQ.of (.inr rfl) rfl (.cells (i := 2) rfl lay25 rfl rfl .nil) (fun w' hw' => ?_)
            exact ⟨⟨id, x10, x2, t2, x3, l3, v4⟩, _, _, rfl, trivial, by omega, by omega, hw'.bel, hw'.ent _ (List.mem_of_getElem? (i := 3) rfl)⟩
          · try replace hc4 := of_decide_eq_false hc4
            refine Run.seq ?_
            refine Run.quiet (by intro h; cases h) ?_
            refine QOps.st rfl rfl (Yv.eqI rfl rfl).yl ?_
            refine QOps.st rfl rfl (Yv.assign rfl).yl ?_
            refine QOps.nil ?_
            refine Run.cond rfl (fun hc5 => ?_) (fun hc5 => ?_)
            · try replace hc5 := of_decide_eq_true hc5
              refine Run.ops ?_
              refine SOps.st rfl rfl (Yv.move rfl).yl ?_
              refine SOps.st rfl rfl (Yv.fieldAddr fld25_2 rfl).yl ?_
              refine SOps.st rfl rfl (Yv.loadB (i := 0) lay3 rfl rfl rfl rfl).yl ?_
              refine SOps.st rfl rfl (Yv.sub rfl rfl (by omega)).yl ?_
              refine SOps.one rfl (One.buildSliceG (pv := [(0, _), (1, _)]) (cs := [_, _]) (fun l => match l with | [a0_0, a1_0] => [a0_0, a1_0] | _ => []) rfl el35 (.cons rfl (.cons rfl (.nil))) rfl rfl (by kernel_rfl) rfl rfl (fun b10 => ?_))
              refine SOps.one rfl (One.callC (i := 3) (H' := fun _ _ => [_, _, _, _]) rfl callable21 (.cons rfl (.cons rfl (.nil))) rfl (fun w' hw' => among_spec (Cur.lent hc (i := 3) rfl hw') (by omega) (by omega) (l := [(x2 - 1), 601]) ((Rd.row (i := 0) rfl) w' hw') (by simp; try omega) (by first | omega | simp) (by first | omega | simp) (fun hm => HOk.rowNe hw' (i := 3) (j := 0) rfl rfl rfl (by first | exact hm | omega))) (fun _ _ => rfl) (fun x11 at11 sd11 hx11 ha11 hb11 => ?_))
              first | (have hxb11 : -1 ≤ x11 ∧ x11 ≤ 1000 := (by simp at hx11; omega)) | skip
              refine SOps.st rfl rfl (Yv.fieldAddr fld25_3 rfl).yl ?_
              refine SOps.one rfl (One.store (i := 1) (off := 3) (vs := [_]) (cs' := [_, _, _, _, _, _, _]) (H' := [_, _, _, _]) lay3 rfl rfl rfl rfl rfl rfl rfl rfl rfl rfl ?_)
              refine SOps.nil ?_
              refine Run.seq ?_
              refine Run.ops ?_
              refine SOps.st rfl rfl (Yv.loadBs (i := 1) lay25 rfl rfl rfl rfl).yl ?_
              refine SOps.one rfl (One.store (i := 2) (off := 0) (vs := [_, _, _, _, _, _, _]) (cs' := [_, _, _, _, _, _, _]) (H' := [_, _, _, _]) lay25 rfl rfl rfl rfl rfl rfl rfl rfl rfl rfl ?_)
              refine SOps.nil ?_
              refine Run.ret ?_
              refine retQ.of (.inr rfl) rfl (.cells (i := 2) rfl lay25 rfl rfl .nil) (fun w' hw' => ?_)
              exact ⟨⟨id, (1 + x1), x2, x11, x3, l3, v4⟩, _, _, rfl, trivial, by omega, by omega, hw'.bel, hw'.ent _ (List.mem_of_getElem? (i := 3) rfl)⟩
            · try replace hc5 := of_decide_eq_false hc5
              refine Run.seq ?_
              refine Run.quiet (by intro h; cases h) ?_
              refine QOps.st rfl rfl (Yv.eqI rfl rfl).yl ?_
              refine QOps.st rfl rfl (Yv.assign rfl).yl ?_
              refine QOps.nil ?_
              refine Run.cond rfl (fun hc6 => ?_) (fun hc6 => ?_)
              · try replace hc6 := of_decide_eq_true hc6
                refine Run.ops ?_
                refine SOps.st rfl rfl (Yv.move rfl).yl ?_
                refine SOps.st rfl rfl (Yv.fieldAddr fld25_4 rfl).yl ?_
                refine SOps.st rfl rfl (Yv.loadB (i := 0) lay3 rfl rfl rfl rfl).yl ?_
                refine SOps.st rfl rfl (Yv.sub rfl rfl (by omega)).yl ?_
                refine SOps.one rfl (One.buildSliceG (pv := [(0, _), (1, _)]) (cs := [_, _]) (fun l => match l with | [a0_0, a1_0] => [a0_0, a1_0] | _ => []) rfl el35 (.cons rfl (.cons rfl (.nil))) rfl rfl (by kernel_rfl) rfl rfl (fun b11 => ?_))
                refine SOps.one rfl (One.callC (i := 3) (H' := fun _ _ => [_, _, _, _]) rfl callable21 (.cons rfl (.cons rfl (.nil))) rfl (fun w' hw' => among_spec (Cur.lent hc (i := 3) rfl hw') (by omega) (by omega) (l := [(x3 - 1), 366]) ((Rd.row (i := 0) rfl) w' hw') (by simp; try omega) (by first | omega | simp) (by first | omega | simp) (fun hm => HOk.rowNe hw' (i := 3) (j := 0) rfl rfl rfl (by first | exact hm | omega))) (fun _ _ => rfl) (fun x12 at12 sd12 hx12 ha12 hb12 => ?_))
                first | (have hxb12 : -1 ≤ x12 ∧ x12 ≤ 1000 := (by simp at hx12; omega)) | skip
                refine SOps.st rfl rfl (Yv.fieldAddr fld25_5 rfl).yl ?_
                refine SOps.one rfl (One.store (i := 1) (off := 5) (vs := [_]) (cs' := [_, _, _, _, _, _, _]) (H' := [_, _, _, _]) lay3 rfl rfl rfl rfl rfl rfl rfl rfl rfl rfl ?_)
                refine SOps.nil ?_
                refine Run.seq ?_
                refine Run.ops ?_
                refine SOps.st rfl rfl (Yv.loadBs (i := 1) lay25 rfl rfl rfl rfl).yl ?_
                refine SOps.one rfl (One.store (i := 2) (off := 0) (vs := [_, _, _, _, _, _, _]) (cs' := [_, _, _, _, _, _, _]) (H' := [_, _, _, _]) lay25 rfl rfl rfl rfl rfl rfl rfl rfl rfl rfl ?_)
                refine SOps.nil ?_
                refine Run.ret ?_
                refine retQ.of (.inr rfl) rfl (.cells (i := 2) rfl lay25 rfl rfl .nil) (fun w' hw' => ?_)
                exact ⟨⟨id, (1 + x1), x2, t2, x3, x12, v4⟩, _, _, rfl, trivial, by omega, by omega, hw'.bel, hw'.ent _ (List.mem_of_getElem? (i := 3) rfl)⟩
              · try replace hc6 := of_decide_eq_false hc6
                refine Run.seq ?_
                refine Run.quiet (by intro h; cases h) ?_
                refine QOps.st rfl rfl (Yv.eqI rfl rfl).yl ?_
                refine QOps.st rfl rfl (Yv.assign rfl).yl ?_
                refine QOps.nil ?_
                refine Run.cond rfl (fun hc7 => ?_) (fun hc7 => ?_)
                · try replace hc7 := of_decide_eq_true hc7
                  refine Run.ops ?_
                  refine SOps.st rfl rfl (Yv.move rfl).yl ?_
                  refine SOps.one rfl (One.buildSliceG (pv := [(0, _), (1, _), (2, _), (3, _)]) (cs := [_, _, _, _]) (fun l => match l with | [a0_0, a1_0, a2_0, a3_0] => [a0_0, a1_0, a2_0, a3_0] | _ => []) rfl el35 (.cons rfl (.cons rfl (.cons rfl (.cons rfl (.nil))))) rfl rfl (by kernel_rfl) rfl rfl (fun b12 => ?_))
                  refine SOps.one rfl (One.callC (i := 3) (H' := fun _ _ => [_, _, _, _]) rfl callable21 (.cons rfl (.cons rfl (.nil))) rfl (fun w' hw' => among_spec (Cur.lent hc (i := 3) rfl hw') (by omega) (by omega) (l := [(-1), 0, 21, 901]) ((Rd.row (i := 0) rfl) w' hw') (by simp; try omega) (by first | omega | simp) (by first | omega | simp) (fun hm => HOk.rowNe hw' (i := 3) (j := 0) rfl rfl rfl (by first | exact hm | omega))) (fun _ _ => rfl) (fun x13 at13 sd13 hx13 ha13 hb13 => ?_))
                  first | (have hxb13 : -1 ≤ x13 ∧ x13 ≤ 1000 := (by simp at hx13; omega)) | skip
                  refine SOps.st rfl rfl (Yv.fieldAddr fld25_6 rfl).yl ?_
                  refine SOps.one rfl (One.store (i := 1) (off := 6) (vs := [_]) (cs' := [_, _, _, _, _, _, _]) (H' := [_, _, _, _]) lay3 rfl rfl rfl rfl rfl rfl rfl rfl rfl rfl ?_)
                  refine SOps.nil ?_
                  refine Run.seq ?_
                  refine Run.ops ?_
                  refine SOps.st rfl rfl (Yv.loadBs (i := 1) lay25 rfl rfl rfl rfl).yl ?_
                  refine SOps.one rfl (One.store (i := 2) (off := 0) (vs := [_, _, _, _, _, _, _]) (cs' := [_, _, _, _, _, _, _]) (H' := [_, _, _, _]) lay25 rfl rfl rfl rfl rfl rfl rfl rfl rfl rfl ?_)
                  refine SOps.nil ?_
                  refine Run.ret ?_
                  refine retQ.of (.inr rfl) rfl (.cells (i := 2) rfl lay25 rfl rfl .nil) (fun w' hw' => ?_)
                  exact ⟨⟨id, (1 + x1), x2, t2, x3, l3, x13⟩, _, _, rfl, trivial, by omega, by omega, hw'.bel, hw'.ent _ (List.mem_of_getElem? (i := 3) rfl)⟩
                · try replace hc7 := of_decide_eq_false hc7
                  refine Run.skip ?_
                  refine Run.seq ?_
                  refine Run.ops ?_
                  refine SOps.st rfl rfl (Yv.loadBs (i := 0) lay25 rfl rfl rfl rfl).yl ?_
                  refine SOps.one rfl (One.store (i := 1) (off := 0) (vs := [_, _, _, _, _, _, _]) (cs' := [_, _, _, _, _, _, _]) (H' := [_, _, _]) lay25 rfl rfl rfl rfl rfl rfl rfl rfl rfl rfl ?_)
                  refine SOps.nil ?_
                  refine Run.ret ?_
                  refine retQ.of (.inr rfl) rfl (.cells (i := 1) rfl lay25 rfl rfl .nil) (fun w' hw' => ?_)
                  exact ⟨⟨id, (1 + x1), x2, t2, x3, l3, v4⟩, _, _, rfl, trivial, by omega, by omega, hw'.bel, hw'.ent _ (List.mem_of_getElem? (i := 2) rfl)⟩

theorem notices_spec {w : World} {g m c : Nat} {A : Option Addr} {xs : List UInt8} {at_ sd : Int} (hc : Cur w 48 g A m c xs at_ sd) (h0 : 0 ≤ at_) (h1 : at_ ≤ 4000000000000000000) :
    Calls Tryz.prog 35 #[.pointer (some ⟨g, 0, none⟩)] w (RetCR w 48 g (.slice A m c) at_ 400 25 7 Notice.enc (fun (l : List Notice) => l) (fun _ v => v) (fun l => l.length ≤ 20)) := by
  refine calls_of_run (vs := [_]) (L := [(0, _)]) (n := 44) (F := [g]) (H := [_]) Tryz.func35 rfl rfl rfl rfl (HOk.lend hc) ?_
  refine Run.seq ?_
  refine Run.quiet (by intro h; cases h) ?_
  refine QOps.st rfl rfl (Yv.assign rfl).yl ?_
  refine QOps.nil ?_
  refine Run.seq ?_
  refine Run.ops ?_
  refine SOps.one rfl (One.buildSliceG (pv := []) (cs := []) (fun _ => []) rfl el32 .nil rfl rfl (by kernel_rfl) rfl rfl (fun b1 => ?_))
  refine SOps.st rfl rfl (Yv.assign rfl).yl ?_
  refine SOps.nil ?_
  refine Run.seq ?_
  refine Run.quiet (by intro h; cases h) ?_
  refine QOps.st rfl rfl (Yv.assign rfl).yl ?_
  refine QOps.nil ?_
  refine Run.seq ?_
  refine Run.seq ?_
  refine Run.ops ?_
  refine SOps.st rfl rfl (Yv.move rfl).yl ?_
  refine SOps.one rfl (One.callC (i := 1) (H' := fun _ _ => [_, _]) rfl callable47 (.cons rfl (.cons rfl (.nil))) rfl (fun w' hw' => pick_spec (Cur.lent hc (i := 1) rfl hw') (by omega) (by omega)) (fun _ _ => rfl) (fun x1 at1 sd1 ⟨hxl1, hxh1⟩ ha1 hb1 => ?_))
  refine SOps.st rfl rfl (Yv.assign rfl).yl ?_
  refine SOps.nil ?_
  refine Run.block ?_
  refine Run.loop (S := Int × Int × Nat × List Notice × Option Addr × Nat × Int × Int) (fun s => match s with | (z, i, nn, o, A2, c2, a2, s2) => 0 ≤ z ∧ z ≤ 7 ∧ (nn : Int) + z ≤ 7 ∧ at_ ≤ a2 ∧ a2 ≤ at_ + 2 + 20 * (7 - z) ∧ o.length = nn ∧ 0 ≤ i ∧ i ≤ 3 * (7 - z)) (fun s => match s with | (z, i, nn, o, A2, c2, a2, s2) => [(0, .pointer (some ⟨g, 0, none⟩)), (3, .slice A2 nn c2), (4, .int .i64 i), (5, .int .i64 z)]) (fun s => match s with | (z, i, nn, o, A2, c2, a2, s2) => [.row A2 c2 25 7 nn (o.flatMap Notice.enc), .blk g 48 [.slice A m c, .int .i64 a2, .int .u64 s2]]) (fun s => match s with | (z, i, nn, o, A2, c2, a2, s2) => z.toNat) (x1, 0, 0, [], some ⟨b1, 0, none⟩, 0, _, _) ?_ (SubE.cons rfl (SubE.cons rfl (SubE.cons rfl (SubE.cons rfl (SubE.nil _))))) (List.Sublist.refl _) ?_
  · exact ⟨by omega, by omega, by omega, by omega, by omega, rfl, by omega, by omega⟩
  · rintro ⟨z, i, nn, o, A2, c2, a2, s2⟩ ⟨hz0, hz7, hn10, ha2l, ha2h, hnn, hi0, hi1⟩
    show Run _ _ _ _ _ [(0, .pointer (some ⟨g, 0, none⟩)), (3, .slice A2 nn c2), (4, .int .i64 i), (5, .int .i64 z)] [.row A2 c2 25 7 nn (o.flatMap Notice.enc), .blk g 48 [.slice A m c, .int .i64 a2, .int .u64 s2]] _
    subst hnn
    refine Run.seq ?_
    refine Run.seq ?_
    refine Run.quiet (by intro h; cases h) ?_
    refine QOps.st rfl rfl (Yv.move rfl).yl ?_
    refine QOps.st rfl rfl (Yv.gtr rfl rfl).yl ?_
    refine QOps.nil ?_
    refine Run.cond rfl (fun hc1 => ?_) (fun hc1 => ?_)
    · try replace hc1 := of_decide_eq_true hc1
      refine Run.skip ?_
      refine Run.seq ?_
      refine Run.block ?_
      refine Run.seq ?_
      refine Run.ops ?_
      refine SOps.st rfl rfl (Yv.move rfl).yl ?_
      refine SOps.st rfl rfl (Yv.add rfl rfl (by omega)).yl ?_
      refine SOps.st rfl rfl (Yv.move rfl).yl ?_
      refine SOps.one rfl (One.callC (i := 1) (H' := fun _ _ => [_, _]) rfl callable47 (.cons rfl (.cons rfl (.nil))) rfl (fun w' hw' => pick_spec (Cur.lent hc (i := 1) rfl hw') (by omega) (by omega)) (fun _ _ => rfl) (fun x2 at2 sd2 ⟨hxl2, hxh2⟩ ha2 hb2 => ?_))
      refine SOps.st rfl rfl (Yv.add rfl rfl (by omega)).yl ?_
      refine SOps.st rfl rfl (Yv.move rfl).yl ?_
      refine SOps.one rfl (One.callC (i := 1) (H' := fun _ _ => [_, _]) rfl callable47 (.cons rfl (.cons rfl (.nil))) rfl (fun w' hw' => pick_spec (Cur.lent hc (i := 1) rfl hw') (by omega) (by omega)) (fun _ _ => rfl) (fun x3 at3 sd3 ⟨hxl3, hxh3⟩ ha3 hb3 => ?_))
      refine SOps.st rfl rfl (Yv.quoP rfl rfl (by omega) (by omega) (by omega)).yl ?_
      refine SOps.st rfl rfl (Yv.sub rfl rfl (by omega)).yl ?_
      refine SOps.st rfl rfl (Yv.assign rfl).yl ?_
      refine SOps.nil ?_
      refine Run.ops ?_
      refine SOps.st rfl rfl (Yv.move rfl).yl ?_
      refine SOps.st rfl rfl (Yv.move rfl).yl ?_
      refine SOps.st rfl rfl (Yv.move rfl).yl ?_
      refine SOps.one rfl (One.callC (i := 1) (H' := fun _ _ => [_, _]) rfl callable20 (.cons rfl (.cons rfl (.nil))) rfl (fun w' hw' => notice_spec (Cur.lent hc (i := 1) rfl hw') (by omega) (by omega)) (fun _ _ => rfl) (fun x4 at4 sd4 _ ha4 hb4 => ?_))
      refine SOps.one rfl (One.buildSliceG (pv := [(0, _)]) (cs := [_, _, _, _, _, _, _]) (fun l => match l with | [.agg ⟨[a0_0, a0_1, a0_2, a0_3, a0_4, a0_5, a0_6]⟩] => [a0_0, a0_1, a0_2, a0_3, a0_4, a0_5, a0_6] | _ => []) rfl el32 (.cons rfl (.nil)) rfl rfl (by kernel_rfl) rfl rfl (fun b2 => ?_))
      refine SOps.one rfl (One.append (enc := Notice.enc) (l := o) (l2 := [x4]) (m' := (o ++ [x4]).length) (i := 1) (H' := fun A c => [_, _, _]) rfl el32 zero25 rfl (by decide) rfl rfl rfl (Rd.row (i := 0) rfl) (fun _ => rfl) (by simp) (by simp; omega) (by simp; omega) (fun _ _ => rfl) (fun A1 c1 => ?_))
      refine SOps.st rfl rfl (Yv.assign rfl).yl ?_
      refine SOps.nil ?_
      refine Run.quiet (by intro h; cases h) ?_
      refine QOps.st rfl rfl (Yv.move rfl).yl ?_
      refine QOps.st rfl rfl (Yv.sub rfl rfl (by omega)).yl ?_
      refine QOps.st rfl rfl (Yv.assign rfl).yl ?_
      refine QOps.nil ?_
      refine ⟨(z - 1, _, _, _, _, _, _, _), ?_, ?_, (SubE.cons rfl (SubE.cons rfl (SubE.cons rfl (SubE.cons rfl (SubE.nil _))))), (List.Sublist.cons _ (List.Sublist.refl _))⟩
      · refine ⟨by omega, by omega, ?_, by omega, by omega, ?_, by omega, by omega⟩ <;> first | rfl | omega | (simp; done) | (simp; omega)
      · first | omega | (dsimp only; omega)
    · try replace hc1 := of_decide_eq_false hc1
      refine Run.exit ?_
      refine Run.seq ?_
      refine Run.seq ?_
      refine Run.ops ?_
      refine SOps.st rfl rfl (Yv.move rfl).yl ?_
      refine SOps.one rfl (One.callC (i := 1) (H' := fun _ _ => [_, _]) rfl callable30 (.cons rfl (.cons rfl (.nil))) rfl (fun w' hw' => one_spec (Cur.lent hc (i := 1) rfl hw') (by omega) (by omega)) (fun _ _ => rfl) (fun x5 at5 sd5 _ ha5 hb5 => ?_))
      refine SOps.nil ?_
      refine Run.cond rfl (fun hc2 => ?_) (fun hc2 => ?_)
      · try replace hc2 := of_decide_eq_true hc2
        refine Run.block ?_
        refine Run.loop (S := Int × Nat × List Notice × Option Addr × Nat × Int × Int) (fun s => match s with | (i, nn, o, A2, c2, a3, s3) => nn ≤ 12 ∧ at_ ≤ a3 ∧ a3 ≤ at_ + 200 + 2 * (nn : Int) ∧ o.length = nn ∧ 0 ≤ i ∧ i ≤ 100 + (nn : Int)) (fun s => match s with | (i, nn, o, A2, c2, a3, s3) => [(0, .pointer (some ⟨g, 0, none⟩)), (3, .slice A2 nn c2), (4, .int .i64 i)]) (fun s => match s with | (i, nn, o, A2, c2, a3, s3) => [.row A2 c2 25 7 nn (o.flatMap Notice.enc), .blk g 48 [.slice A m c, .int .i64 a3, .int .u64 s3]]) (fun s => match s with | (i, nn, o, A2, c2, a3, s3) => 12 - nn) (_, _, o, A2, c2, _, _) ?_ (SubE.cons rfl (SubE.cons rfl (SubE.cons rfl (SubE.nil _)))) (List.Sublist.refl _) ?_
        · exact ⟨by omega, by omega, by omega, rfl, by omega, by omega⟩
        · rintro ⟨i, nn, o, A2, c2, a3, s3⟩ ⟨hk12, ha3l, ha3h, hnn, hi0, hi1⟩
          show Run _ _ _ _ _ [(0, .pointer (some ⟨g, 0, none⟩)), (3, .slice A2 nn c2), (4, .int .i64 i)] [.row A2 c2 25 7 nn (o.flatMap Notice.enc), .blk g 48 [.slice A m c, .int .i64 a3, .int .u64 s3]] _
          subst hnn
          refine Run.seq ?_
          refine Run.seq ?_
          refine Run.ops ?_
          refine SOps.st rfl rfl (Yv.move rfl).yl ?_
          refine SOps.st rfl rfl (Yv.lenS el32s rfl).yl ?_
          refine SOps.st rfl rfl (Yv.move rfl).yl ?_
          refine SOps.one rfl (One.callC (i := 1) (H' := fun _ _ => [_, _]) rfl callable47 (.cons rfl (.cons rfl (.nil))) rfl (fun w' hw' => pick_spec (Cur.lent hc (i := 1) rfl hw') (by omega) (by omega)) (fun _ _ => rfl) (fun x6 at6 sd6 ⟨hxl6, hxh6⟩ ha6 hb6 => ?_))
          refine SOps.st rfl rfl (Yv.add rfl rfl (by omega)).yl ?_
          refine SOps.st rfl rfl (Yv.lss rfl rfl).yl ?_
          refine SOps.nil ?_
          refine Run.cond rfl (fun hc3 => ?_) (fun hc3 => ?_)
          · try replace hc3 := of_decide_eq_true hc3
            refine Run.skip ?_
            refine Run.block ?_
            refine Run.seq ?_
            refine Run.quiet (by intro h; cases h) ?_
            refine QOps.st rfl rfl (Yv.move rfl).yl ?_
            refine QOps.st rfl rfl (Yv.add rfl rfl (by omega)).yl ?_
            refine QOps.st rfl rfl (Yv.assign rfl).yl ?_
            refine QOps.nil ?_
            refine Run.ops ?_
            refine SOps.st rfl rfl (Yv.move rfl).yl ?_
            refine SOps.st rfl rfl (Yv.move rfl).yl ?_
            refine SOps.st rfl rfl (Yv.buildG (pv := [(0, _), (1, _), (5, _)]) (cs := [_, _, _, _, _, _, _]) (fun l => match l with | [a0_0, a1_0, a2_0] => [a0_0, a1_0, .int .i64 0, .int .i64 0, .int .i64 0, a2_0, .int .i64 0] | _ => []) (.cons rfl (.cons rfl (.cons rfl (.nil)))) rfl rfl (by kernel_rfl)).yl ?_
            refine SOps.one rfl (One.buildSliceG (pv := [(0, _)]) (cs := [_, _, _, _, _, _, _]) (fun l => match l with | [.agg ⟨[a0_0, a0_1, a0_2, a0_3, a0_4, a0_5, a0_6]⟩] => [a0_0, a0_1, a0_2, a0_3, a0_4, a0_5, a0_6] | _ => []) rfl el32 (.cons rfl (.nil)) rfl rfl (by kernel_rfl) rfl rfl (fun b3 => ?_))
            refine SOps.one rfl (One.append (enc := Notice.enc) (l := o) (l2 := [⟨(i + 1), 1, 0, 0, 0, 3, 0⟩]) (m' := (o ++ [(⟨(i + 1), 1, 0, 0, 0, 3, 0⟩ : Notice)]).length) (i := 1) (H' := fun A c => [_, _, _]) rfl el32 zero25 rfl (by decide) rfl rfl rfl (Rd.row (i := 0) rfl) (fun _ => rfl) (by simp) (by simp; omega) (by simp; omega) (fun _ _ => rfl) (fun A2 c2 => ?_))
            refine SOps.st rfl rfl (Yv.assign rfl).yl ?_
            refine SOps.nil ?_
            refine ⟨(_, _, _, _, _, _, _), ?_, ?_, (SubE.cons rfl (SubE.cons rfl (SubE.cons rfl (SubE.nil _)))), (List.Sublist.cons _ (List.Sublist.refl _))⟩
            · refine ⟨?_, by omega, ?_, ?_, by omega, ?_⟩ <;> first | rfl | omega | (simp; done) | (simp; omega)
            · (simp; omega)
          · try replace hc3 := of_decide_eq_false hc3
            refine Run.exit ?_
            refine Run.seq ?_
            refine Run.quiet (by intro h; cases h) ?_
            refine QOps.st rfl rfl (Yv.move rfl).yl ?_
            refine QOps.st rfl rfl (Yv.assign rfl).yl ?_
            refine QOps.nil ?_
            refine Run.ret ?_
            refine retQ.of (.inr rfl) rfl (.tmp rfl .nil) (fun w' hw' => ?_)
            exact retCR_of (o) (by first | rfl | simp) rfl (by first | omega | (simp; omega)) (by omega) (by omega) hw'.bel (hw'.ent _ (List.mem_of_getElem? (i := 1) rfl)) (hw'.ent _ (List.mem_of_getElem? (i := 0) rfl)) (HOk.newRow hw' (i := 1) (j := 0) rfl rfl rfl)
      · try replace hc2 := of_decide_eq_false hc2
        refine Run.skip ?_
        refine Run.seq ?_
        refine Run.quiet (by intro h; cases h) ?_
        refine QOps.st rfl rfl (Yv.move rfl).yl ?_
        refine QOps.st rfl rfl (Yv.assign rfl).yl ?_
        refine QOps.nil ?_
        refine Run.ret ?_
        refine retQ.of (.inr rfl) rfl (.tmp rfl .nil) (fun w' hw' => ?_)
        exact retCR_of (o) (by first | rfl | simp) rfl (by first | omega | (simp; omega)) (by omega) (by omega) hw'.bel (hw'.ent _ (List.mem_of_getElem? (i := 1) rfl)) (hw'.ent _ (List.mem_of_getElem? (i := 0) rfl)) (HOk.newRow hw' (i := 1) (j := 0) rfl rfl rfl)
theorem DrawNoticesMet_spec {w : World} {A : Option Addr} {c : Nat} {xs : List UInt8} (hs : Sl w 1 A xs.length c (xs.flatMap byteC)) :
    Calls Tryz.prog 11 #[.slice A xs.length c] w (RetER w 25 7 Notice.enc (fun (x : List Notice × Int × Int × Int) => x.1) (fun x v => .tuple #[v, .int .i64 x.2.1, .int .i64 x.2.2.1, .int .i64 x.2.2.2]) (fun x => x.1.length ≤ 20)) := by
  refine calls_of_run (vs := [_]) (L := [(0, _)]) (n := 20) (F := []) (H := []) Tryz.func11 rfl rfl rfl rfl (HOk.start _) ?_
  refine Run.seq ?_
  refine Run.quiet (by intro h; cases h) ?_
  refine QOps.st rfl rfl (Yv.assign rfl).yl ?_
  refine QOps.st rfl rfl (Yv.assign rfl).yl ?_
  refine QOps.st rfl rfl (Yv.assign rfl).yl ?_
  refine QOps.st rfl rfl (Yv.assign rfl).yl ?_
  refine QOps.nil ?_
  refine Run.seq ?_
  refine Run.ops ?_
  refine SOps.st rfl rfl (Yv.move rfl).yl ?_
  refine SOps.st rfl rfl (Yv.buildG (pv := [(0, _)]) (cs := [_, _, _]) (fun l => match l with | [a0_0] => [a0_0, .int .i64 0, .int .u64 0] | _ => []) (.cons rfl (.nil)) rfl rfl (by kernel_rfl)).yl ?_
  refine SOps.one rfl (One.box (cs := [_, _, _]) rfl rfl rfl (fun b1 => ?_))
  refine SOps.st rfl rfl (Yv.assign rfl).yl ?_
  refine SOps.nil ?_
  refine Run.seq ?_
  refine Run.ops ?_
  refine SOps.st rfl rfl (Yv.move rfl).yl ?_
  refine SOps.one rfl (One.callCR (i := 0) (H' := fun _ _ => [_]) rfl callable35 (.cons rfl (.nil)) rfl (fun w' hw' => notices_spec (Cur.own hs (i := 0) rfl hw') (by omega) (by omega)) (fun _ _ => rfl) (fun x1 Aq1 cq1 at1 sd1 hx1 ha1 hb1 => ?_))
  refine SOps.st rfl rfl (Yv.assign rfl).yl ?_
  refine SOps.nil ?_
  refine Run.seq ?_
  refine Run.ops ?_
  refine SOps.st rfl rfl (Yv.move rfl).yl ?_
  refine SOps.st rfl rfl (Yv.move rfl).yl ?_
  refine SOps.one rfl (One.callC (i := 1) (H' := fun _ _ => [_, _]) rfl callable36 (.cons rfl (.nil)) rfl (fun w' hw' => way22_spec (Cur.own hs (i := 1) rfl hw') (by omega) (by omega)) (fun _ _ => rfl) (fun x2 at2 sd2 _ ha2 hb2 => ?_))
  refine SOps.st rfl rfl (Yv.move rfl).yl ?_
  refine SOps.one rfl (One.callC (i := 1) (H' := fun _ _ => [_, _]) rfl callable36 (.cons rfl (.nil)) rfl (fun w' hw' => way22_spec (Cur.own hs (i := 1) rfl hw') (by omega) (by omega)) (fun _ _ => rfl) (fun x3 at3 sd3 _ ha3 hb3 => ?_))
  refine SOps.st rfl rfl (Yv.move rfl).yl ?_
  refine SOps.one rfl (One.callC (i := 1) (H' := fun _ _ => [_, _]) rfl callable37 (.cons rfl (.nil)) rfl (fun w' hw' => day22_spec (Cur.own hs (i := 1) rfl hw') (by omega) (by omega)) (fun _ _ => rfl) (fun x4 at4 sd4 _ ha4 hb4 => ?_))
  refine SOps.st rfl rfl (Yv.assign rfl).yl ?_
  refine SOps.st rfl rfl (Yv.assign rfl).yl ?_
  refine SOps.st rfl rfl (Yv.assign rfl).yl ?_
  refine SOps.st rfl rfl (Yv.assign rfl).yl ?_
  refine SOps.nil ?_
  refine Run.ret ?_
  refine retQ.of (.inr rfl) rfl (.tmp rfl (.tmp rfl (.tmp rfl (.tmp rfl .nil)))) (fun w' hw' => ?_)
  exact retER_of ((x1, x2, x3, x4)) (by first | rfl | simp) rfl (by omega) hw'.bel.below (hw'.ent _ (List.mem_of_getElem? (i := 0) rfl)) (fun b hb => (hw'.own _ (List.mem_of_getElem? (i := 0) rfl) b hb).elim id (by simp))

theorem DrawOpenStretches_spec {w : World} {A : Option Addr} {c : Nat} {xs : List UInt8} (hs : Sl w 1 A xs.length c (xs.flatMap byteC)) :
    Calls Tryz.prog 44 #[.slice A xs.length c] w (RetER w 25 7 Notice.enc (fun (x : List Notice × Int) => x.1) (fun x v => .tuple #[v, .int .i64 x.2]) (fun x => x.1.length ≤ 20)) := by
  refine calls_of_run (vs := [_]) (L := [(0, _)]) (n := 14) (F := []) (H := []) Tryz.func44 rfl rfl rfl rfl (HOk.start _) ?_
  refine Run.seq ?_
  refine Run.quiet (by intro h; cases h) ?_
  refine QOps.st rfl rfl (Yv.assign rfl).yl ?_
  refine QOps.st rfl rfl (Yv.assign rfl).yl ?_
  refine QOps.nil ?_
  refine Run.seq ?_
  refine Run.ops ?_
  refine SOps.st rfl rfl (Yv.move rfl).yl ?_
  refine SOps.st rfl rfl (Yv.buildG (pv := [(0, _)]) (cs := [_, _, _]) (fun l => match l with | [a0_0] => [a0_0, .int .i64 0, .int .u64 0] | _ => []) (.cons rfl (.nil)) rfl rfl (by kernel_rfl)).yl ?_
  refine SOps.one rfl (One.box (cs := [_, _, _]) rfl rfl rfl (fun b1 => ?_))
  refine SOps.st rfl rfl (Yv.assign rfl).yl ?_
  refine SOps.nil ?_
  refine Run.seq ?_
  refine Run.ops ?_
  refine SOps.st rfl rfl (Yv.move rfl).yl ?_
  refine SOps.one rfl (One.callCR (i := 0) (H' := fun _ _ => [_]) rfl callable35 (.cons rfl (.nil)) rfl (fun w' hw' => notices_spec (Cur.own hs (i := 0) rfl hw') (by omega) (by omega)) (fun _ _ => rfl) (fun x1 Aq1 cq1 at1 sd1 hx1 ha1 hb1 => ?_))
  refine SOps.st rfl rfl (Yv.assign rfl).yl ?_
  refine SOps.nil ?_
  refine Run.seq ?_
  refine Run.ops ?_
  refine SOps.st rfl rfl (Yv.move rfl).yl ?_
  refine SOps.st rfl rfl (Yv.move rfl).yl ?_
  refine SOps.one rfl (One.callC (i := 1) (H' := fun _ _ => [_, _]) rfl callable37 (.cons rfl (.nil)) rfl (fun w' hw' => day22_spec (Cur.own hs (i := 1) rfl hw') (by omega) (by omega)) (fun _ _ => rfl) (fun x2 at2 sd2 _ ha2 hb2 => ?_))
  refine SOps.st rfl rfl (Yv.assign rfl).yl ?_
  refine SOps.st rfl rfl (Yv.assign rfl).yl ?_
  refine SOps.nil ?_
  refine Run.ret ?_
  refine retQ.of (.inr rfl) rfl (.tmp rfl (.tmp rfl .nil)) (fun w' hw' => ?_)
  exact retER_of ((x1, x2)) (by first | rfl | simp) rfl (by omega) hw'.bel.below (hw'.ent _ (List.mem_of_getElem? (i := 0) rfl)) (fun b hb => (hw'.own _ (List.mem_of_getElem? (i := 0) rfl) b hb).elim id (by simp))

theorem rBig_spec {w : World} {A : Option Addr} {n c : Nat} : Calls Tryz.prog 4 #[.slice A n c] w (RetB w (.bool (decide ((65536 : Int) < (n : Int))))) := by
  refine calls_of_run (vs := [_]) (L := [(0, _)]) (n := 6) (F := []) (H := []) Tryz.func4 rfl rfl rfl rfl (HOk.start _) ?_
  refine Run.seq ?_
  refine Run.quiet (by intro h; cases h) ?_
  refine QOps.st rfl rfl (Yv.assign rfl).yl ?_
  refine QOps.nil ?_
  refine Run.seq ?_
  refine Run.quiet (by intro h; cases h) ?_
  refine QOps.st rfl rfl (Yv.move rfl).yl ?_
  refine QOps.st rfl rfl (Yv.lenS el22s rfl).yl ?_
  refine QOps.st rfl rfl (Yv.gtr rfl rfl).yl ?_
  refine QOps.st rfl rfl (Yv.assign rfl).yl ?_
  refine QOps.nil ?_
  refine Run.ret ?_
  refine retQ.of (.inr rfl) rfl (.tmp rfl .nil) (fun w' hw' => ?_)
  refine ⟨?_, hw'.bel.below⟩
  exact rfl

theorem rInts_spec {w : World} {A A2 : Option Addr} {c c2 : Nat} {l : List Int} (hs : Sl w 1 A l.length c (l.flatMap intC)) (hs2 : Sl w 1 A2 l.length c2 (l.flatMap intC)) :
    Calls Tryz.prog 14 #[.slice A l.length c, .slice A2 l.length c2] w (RetB w (.bool true)) := by
  have hmx := Sl.lenle hs
  refine calls_of_run (vs := [_, _]) (L := [(0, _), (1, _)]) (n := 26) (F := []) (H := []) Tryz.func14 rfl rfl rfl rfl (HOk.start _) ?_
  refine Run.seq ?_
  refine Run.quiet (by intro h; cases h) ?_
  refine QOps.st rfl rfl (Yv.assign rfl).yl ?_
  refine QOps.nil ?_
  refine Run.seq ?_
  refine Run.seq ?_
  refine Run.quiet (by intro h; cases h) ?_
  refine QOps.st rfl rfl (Yv.move rfl).yl ?_
  refine QOps.st rfl rfl (Yv.lenS el35s rfl).yl ?_
  refine QOps.st rfl rfl (Yv.move rfl).yl ?_
  refine QOps.st rfl rfl (Yv.lenS el35s rfl).yl ?_
  refine QOps.st rfl rfl (Yv.neI rfl rfl).yl ?_
  refine QOps.nil ?_
  refine Run.cond rfl (fun hc1 => ?_) (fun hc1 => ?_)
  · exfalso
    simp at hc1
  · try replace hc1 := of_decide_eq_false hc1
    refine Run.skip ?_
    refine Run.seq ?_
    refine Run.seq ?_
    refine Run.quiet (by intro h; cases h) ?_
    refine QOps.st rfl rfl (Yv.assign rfl).yl ?_
    refine QOps.nil ?_
    refine Run.block ?_
    refine Run.loop (S := Nat) (fun s => match s with | k => k ≤ l.length) (fun s => match s with | k => [(0, .slice A l.length c), (1, .slice A2 l.length c2), (5, .int .i64 (k : Int))]) (fun s => match s with | k => []) (fun s => match s with | k => l.length - k) 0 ?_ (SubE.cons rfl (SubE.cons rfl (SubE.cons rfl (SubE.nil _)))) (List.Sublist.refl _) ?_
    · exact Nat.zero_le _
    · rintro k hk
      show Run _ _ _ _ _ [(0, .slice A l.length c), (1, .slice A2 l.length c2), (5, .int .i64 (k : Int))] [] _
      refine Run.seq ?_
      refine Run.seq ?_
      refine Run.quiet (by intro h; cases h) ?_
      refine QOps.st rfl rfl (Yv.move rfl).yl ?_
      refine QOps.st rfl rfl (Yv.move rfl).yl ?_
      refine QOps.st rfl rfl (Yv.lenS el35s rfl).yl ?_
      refine QOps.st rfl rfl (Yv.lss rfl rfl).yl ?_
      refine QOps.nil ?_
      refine Run.cond rfl (fun hc2 => ?_) (fun hc2 => ?_)
      · try replace hc2 := of_decide_eq_true hc2
        refine Run.skip ?_
        refine Run.seq ?_
        refine Run.block ?_
        refine Run.seq ?_
        refine Run.quiet (fun _ => ⟨by kernel_rfl, by kernel_rfl⟩) ?_
        refine QOps.st rfl rfl (Yv.move rfl).yl ?_
        refine QOps.st rfl rfl (Yv.move rfl).yl ?_
        refine QOps.st rfl rfl (Yv.indexAddr k el35 rfl rfl rfl (Rd.arg hs) (by omega)).yl ?_
        refine QOps.st rfl rfl (Yv.loadE lay3 rfl intC_len (Rd.arg hs) (by first | omega | (simp; omega)) rfl).yl ?_
        refine QOps.st rfl rfl (Yv.move rfl).yl ?_
        refine QOps.st rfl rfl (Yv.move rfl).yl ?_
        refine QOps.st rfl rfl (Yv.indexAddr k el35 rfl rfl rfl (Rd.arg hs2) (by omega)).yl ?_
        refine QOps.st rfl rfl (Yv.loadE lay3 rfl intC_len (Rd.arg hs2) (by first | omega | (simp; omega)) rfl).yl ?_
        refine QOps.st rfl rfl (Yv.neI rfl rfl).yl ?_
        refine QOps.nil ?_
        refine Run.cond rfl (fun hc3 => ?_) (fun hc3 => ?_)
        · exfalso
          simp at hc3
        · try replace hc3 := of_decide_eq_false hc3
          refine Run.skip ?_
          refine Run.quiet (by intro h; cases h) ?_
          refine QOps.st rfl rfl (Yv.move rfl).yl ?_
          refine QOps.st rfl rfl (Yv.succN rfl rfl (by omega)).yl ?_
          refine QOps.st rfl rfl (Yv.assign rfl).yl ?_
          refine QOps.nil ?_
          refine ⟨k + 1, ?_, ?_, (SubE.cons rfl (SubE.cons rfl (SubE.cons rfl (SubE.nil _)))), (List.Sublist.refl _)⟩
          · show k + 1 ≤ _; omega
          · first | omega | (dsimp only; omega)
      · try replace hc2 := of_decide_eq_false hc2
        refine Run.exit ?_
        refine Run.seq ?_
        refine Run.quiet (by intro h; cases h) ?_
        refine QOps.st rfl rfl (Yv.assign rfl).yl ?_
        refine QOps.nil ?_
        refine Run.ret ?_
        refine retQ.of (.inr rfl) rfl (.tmp rfl .nil) (fun w' hw' => ?_)
        refine ⟨?_, hw'.bel.below⟩
        exact rfl

theorem DrawEndedNotices_spec {w : World} {A : Option Addr} {c : Nat} {xs : List UInt8} (hs : Sl w 1 A xs.length c (xs.flatMap byteC)) :
    Calls Tryz.prog 17 #[.slice A xs.length c] w (RetER w 25 7 Notice.enc (fun (x : List Notice × Int) => x.1) (fun x v => .tuple #[v, .int .i64 x.2]) (fun x => x.1.length ≤ 20)) := by
  refine calls_of_run (vs := [_]) (L := [(0, _)]) (n := 8) (F := []) (H := []) Tryz.func17 rfl rfl rfl rfl (HOk.start _) ?_
  refine Run.seq ?_
  refine Run.quiet (by intro h; cases h) ?_
  refine QOps.st rfl rfl (Yv.assign rfl).yl ?_
  refine QOps.st rfl rfl (Yv.assign rfl).yl ?_
  refine QOps.nil ?_
  refine Run.seq ?_
  refine Run.ops ?_
  refine SOps.st rfl rfl (Yv.move rfl).yl ?_
  refine SOps.one rfl (One.callER rfl callable44 (.cons rfl (.nil)) (fun w' hw' => DrawOpenStretches_spec ((Rd.arg hs) w' hw')) ?_)
  rintro ⟨ya1, yb1⟩ Aq1 cq1 hx1
  try dsimp only at *
  refine SOps.st rfl rfl (Yv.extract rfl rfl).yl ?_
  refine SOps.st rfl rfl (Yv.extract rfl rfl).yl ?_
  refine SOps.st rfl rfl (Yv.assign rfl).yl ?_
  refine SOps.st rfl rfl (Yv.assign rfl).yl ?_
  refine SOps.nil ?_
  refine Run.ret ?_
  refine retQ.of (.inr rfl) rfl (.tmp rfl (.tmp rfl .nil)) (fun w' hw' => ?_)
  exact retER_of ((ya1, yb1)) (by first | rfl | simp) rfl (by omega) hw'.bel.below (hw'.ent _ (List.mem_of_getElem? (i := 0) rfl)) (fun b hb => (hw'.own _ (List.mem_of_getElem? (i := 0) rfl) b hb).elim id (by simp))

theorem rNotices_spec {w : World} {A A2 : Option Addr} {c c2 : Nat} {l : List Notice} (hs : Sl w 7 A l.length c (l.flatMap Notice.enc)) (hs2 : Sl w 7 A2 l.length c2 (l.flatMap Notice.enc)) :
    Calls Tryz.prog 19 #[.slice A l.length c, .slice A2 l.length c2] w (RetB w (.bool true)) := by
  have hmx := Sl.lenle hs
  refine calls_of_run (vs := [_, _]) (L := [(0, _), (1, _)]) (n := 26) (F := []) (H := []) Tryz.func19 rfl rfl rfl rfl (HOk.start _) ?_
  refine Run.seq ?_
  refine Run.quiet (by intro h; cases h) ?_
  refine QOps.st rfl rfl (Yv.assign rfl).yl ?_
  refine QOps.nil ?_
  refine Run.seq ?_
  refine Run.seq ?_
  refine Run.quiet (by intro h; cases h) ?_
  refine QOps.st rfl rfl (Yv.move rfl).yl ?_
  refine QOps.st rfl rfl (Yv.lenS el32s rfl).yl ?_
  refine QOps.st rfl rfl (Yv.move rfl).yl ?_
  refine QOps.st rfl rfl (Yv.lenS el32s rfl).yl ?_
  refine QOps.st rfl rfl (Yv.neI rfl rfl).yl ?_
  refine QOps.nil ?_
  refine Run.cond rfl (fun hc1 => ?_) (fun hc1 => ?_)
  · exfalso
    simp at hc1
  · try replace hc1 := of_decide_eq_false hc1
    refine Run.skip ?_
    refine Run.seq ?_
    refine Run.seq ?_
    refine Run.quiet (by intro h; cases h) ?_
    refine QOps.st rfl rfl (Yv.assign rfl).yl ?_
    refine QOps.nil ?_
    refine Run.block ?_
    refine Run.loop (S := Nat) (fun s => match s with | k => k ≤ l.length) (fun s => match s with | k => [(0, .slice A l.length c), (1, .slice A2 l.length c2), (5, .int .i64 (k : Int))]) (fun s => match s with | k => []) (fun s => match s with | k => l.length - k) 0 ?_ (SubE.cons rfl (SubE.cons rfl (SubE.cons rfl (SubE.nil _)))) (List.Sublist.refl _) ?_
    · exact Nat.zero_le _
    · rintro k hk
      show Run _ _ _ _ _ [(0, .slice A l.length c), (1, .slice A2 l.length c2), (5, .int .i64 (k : Int))] [] _
      refine Run.seq ?_
      refine Run.seq ?_
      refine Run.quiet (by intro h; cases h) ?_
      refine QOps.st rfl rfl (Yv.move rfl).yl ?_
      refine QOps.st rfl rfl (Yv.move rfl).yl ?_
      refine QOps.st rfl rfl (Yv.lenS el32s rfl).yl ?_
      refine QOps.st rfl rfl (Yv.lss rfl rfl).yl ?_
      refine QOps.nil ?_
      refine Run.cond rfl (fun hc2 => ?_) (fun hc2 => ?_)
      · try replace hc2 := of_decide_eq_true hc2
        refine Run.skip ?_
        refine Run.seq ?_
        refine Run.block ?_
        refine Run.seq ?_
        refine Run.quiet (fun _ => ⟨by kernel_rfl, by kernel_rfl⟩) ?_
        refine QOps.st rfl rfl (Yv.move rfl).yl ?_
        refine QOps.st rfl rfl (Yv.move rfl).yl ?_
        refine QOps.st rfl rfl (Yv.indexAddr k el32 rfl rfl rfl (Rd.arg hs) (by omega)).yl ?_
        refine QOps.st rfl rfl (Yv.loadEs lay25 rfl Notice.len (Rd.arg hs) (by first | omega | (simp; omega)) (by decide)).yl ?_
        refine QOps.st rfl rfl (Yv.move rfl).yl ?_
        refine QOps.st rfl rfl (Yv.move rfl).yl ?_
        refine QOps.st rfl rfl (Yv.indexAddr k el32 rfl rfl rfl (Rd.arg hs2) (by omega)).yl ?_
        refine QOps.st rfl rfl (Yv.loadEs lay25 rfl Notice.len (Rd.arg hs2) (by first | omega | (simp; omega)) (by decide)).yl ?_
        refine QOps.st rfl rfl (Yv.neS scal25 rfl rfl rfl rfl).yl ?_
        refine QOps.nil ?_
        refine Run.cond rfl (fun hc3 => ?_) (fun hc3 => ?_)
        · exfalso
          simp [eqC, Notice.enc] at hc3
        · try replace hc3 := of_decide_eq_false hc3
          refine Run.skip ?_
          refine Run.quiet (by intro h; cases h) ?_
          refine QOps.st rfl rfl (Yv.move rfl).yl ?_
          refine QOps.st rfl rfl (Yv.succN rfl rfl (by omega)).yl ?_
          refine QOps.st rfl rfl (Yv.assign rfl).yl ?_
          refine QOps.nil ?_
          refine ⟨k + 1, ?_, ?_, (SubE.cons rfl (SubE.cons rfl (SubE.cons rfl (SubE.nil _)))), (List.Sublist.refl _)⟩
          · show k + 1 ≤ _; omega
          · first | omega | (dsimp only; omega)
      · try replace hc2 := of_decide_eq_false hc2
        refine Run.exit ?_
        refine Run.seq ?_
        refine Run.quiet (by intro h; cases h) ?_
        refine QOps.st rfl rfl (Yv.assign rfl).yl ?_
        refine QOps.nil ?_
        refine Run.ret ?_
        refine retQ.of (.inr rfl) rfl (.tmp rfl .nil) (fun w' hw' => ?_)
        refine ⟨?_, hw'.bel.below⟩
        exact rfl

theorem text_len {n : Notice} : (textOf n).1.length ≤ 90 := by
  unfold textOf
  split
  · rename_i h
    exact note_len h
  · simp
theorem spoilt_spec {w : World} {g m c : Nat} {A : Option Addr} {xs : List UInt8} {at_ sd : Int} {l ch : List UInt8} (hc : Cur w 48 g A m c xs at_ sd) (h0 : 0 ≤ at_) (h1 : at_ ≤ 5000000000000000000) (hl : l.length ≤ 1000000) (hch : 1 ≤ ch.length ∧ ch.length ≤ 200) : Calls Tryz.prog 31 #[.pointer (some ⟨g, 0, none⟩), strV l, strV ch] w (RetC w 48 g (.slice A m c) at_ 6 (fun (x : List UInt8) => strV x) (fun x => x.length ≤ l.length + 1)) := by
  refine calls_of_run (vs := [_, _, _]) (L := [(0, _), (1, _), (2, _)]) (n := 57) (F := [g]) (H := [_]) Tryz.func31 rfl rfl rfl rfl (HOk.lend hc) ?_
  refine Run.seq ?_
  refine Run.quiet (by intro h; cases h) ?_
  refine QOps.st rfl rfl (Yv.assign rfl).yl ?_
  refine QOps.nil ?_
  refine Run.seq ?_
  refine Run.seq ?_
  refine Run.quiet (by intro h; cases h) ?_
  refine QOps.st rfl rfl (Yv.move rfl).yl ?_
  refine QOps.st rfl rfl (Yv.strEq (a := l) (b := ([] : List UInt8)) rfl rfl).yl ?_
  refine QOps.nil ?_
  refine Run.cond rfl (fun hc1 => ?_) (fun hc1 => ?_)
  · try replace hc1 := of_decide_eq_true hc1
    refine Run.seq ?_
    refine Run.quiet (by intro h; cases h) ?_
    refine QOps.st rfl rfl (Yv.move rfl).yl ?_
    refine QOps.st rfl rfl (Yv.strTo (a := ch) 1 str9 rfl rfl (by first | rfl | omega) (by omega)).yl ?_
    refine QOps.st rfl rfl (Yv.assign rfl).yl ?_
    refine QOps.nil ?_
    refine Run.ret ?_
    refine retQ.of (.inr rfl) rfl (.tmp rfl .nil) (fun w' hw' => ?_)
    exact ⟨_, _, _, rfl, (by simp only [List.length_append, List.length_take, List.length_drop]; omega), by omega, by omega, hw'.bel, hw'.ent _ (List.mem_of_getElem? (i := 0) rfl)⟩
  · try replace hc1 := of_decide_eq_false hc1
    have hl1 : 1 ≤ l.length := by
          cases l with
          | nil => simp at hc1
          | cons a b => simp
    refine Run.skip ?_
    refine Run.seq ?_
    refine Run.ops ?_
    refine SOps.st rfl rfl (Yv.move rfl).yl ?_
    refine SOps.st rfl rfl (Yv.move rfl).yl ?_
    refine SOps.st rfl rfl (Yv.strLen (a := l) str9 rfl).yl ?_
    refine SOps.one rfl (One.callC (i := 0) (H' := fun _ _ => [_]) rfl callable47 (.cons rfl (.cons rfl (.nil))) rfl (fun w' hw' => pick_spec (Cur.lent hc (i := 0) rfl hw') (by omega) (by omega)) (fun _ _ => rfl) (fun x1 at1 sd1 ⟨hxl1, hxh1⟩ ha1 hb1 => ?_))
    refine SOps.st rfl rfl (Yv.assign rfl).yl ?_
    refine SOps.nil ?_
    refine Run.seq ?_
    refine Run.ops ?_
    refine SOps.st rfl rfl (Yv.move rfl).yl ?_
    refine SOps.st rfl rfl (Yv.move rfl).yl ?_
    refine SOps.st rfl rfl (Yv.move rfl).yl ?_
    refine SOps.st rfl rfl (Yv.strLen (a := ch) str9 rfl).yl ?_
    refine SOps.one rfl (One.callC (i := 0) (H' := fun _ _ => [_]) rfl callable47 (.cons rfl (.cons rfl (.nil))) rfl (fun w' hw' => pick_spec (Cur.lent hc (i := 0) rfl hw') (by omega) (by omega)) (fun _ _ => rfl) (fun x2 at2 sd2 ⟨hxl2, hxh2⟩ ha2 hb2 => ?_))
    refine SOps.st rfl rfl (Yv.strFrom (a := ch) x2.toNat str9 rfl rfl (by omega) (by omega)).yl ?_
    refine SOps.st rfl rfl (Yv.strTo (a := (ch.drop x2.toNat)) 1 str9 rfl rfl (by first | rfl | omega) (by simp; omega)).yl ?_
    refine SOps.st rfl rfl (Yv.assign rfl).yl ?_
    refine SOps.nil ?_
    refine Run.seq ?_
    refine Run.seq ?_
    refine Run.ops ?_
    refine SOps.st rfl rfl (Yv.move rfl).yl ?_
    refine SOps.one rfl (One.callC (i := 0) (H' := fun _ _ => [_]) rfl callable47 (.cons rfl (.cons rfl (.nil))) rfl (fun w' hw' => pick_spec (Cur.lent hc (i := 0) rfl hw') (by omega) (by omega)) (fun _ _ => rfl) (fun x3 at3 sd3 ⟨hxl3, hxh3⟩ ha3 hb3 => ?_))
    refine SOps.nil ?_
    refine Run.block ?_
    refine Run.seq ?_
    refine Run.quiet (by intro h; cases h) ?_
    refine QOps.st rfl rfl (Yv.eqI rfl rfl).yl ?_
    refine QOps.st rfl rfl (Yv.assign rfl).yl ?_
    refine QOps.nil ?_
    refine Run.cond rfl (fun hc2 => ?_) (fun hc2 => ?_)
    · try replace hc2 := of_decide_eq_true hc2
      refine Run.seq ?_
      refine Run.quiet (fun _ => ⟨by kernel_rfl, by kernel_rfl⟩) ?_
      refine QOps.st rfl rfl (Yv.move rfl).yl ?_
      refine QOps.st rfl rfl (Yv.move rfl).yl ?_
      refine QOps.st rfl rfl (Yv.strTo (a := l) x1.toNat str9 rfl rfl (by omega) (by omega)).yl ?_
      refine QOps.st rfl rfl (Yv.move rfl).yl ?_
      refine QOps.st rfl rfl (Yv.strAdd (a := (l.take x1.toNat)) (b := ((ch.drop x2.toNat).take 1)) rfl rfl (by simp only [List.length_append, List.length_take, List.length_drop]; omega)).yl ?_
      refine QOps.st rfl rfl (Yv.move rfl).yl ?_
      refine QOps.st rfl rfl (Yv.move rfl).yl ?_
      refine QOps.st rfl rfl (Yv.strFrom (a := l) x1.toNat str9 rfl rfl (by omega) (by omega)).yl ?_
      refine QOps.st rfl rfl (Yv.strAdd (a := ((l.take x1.toNat) ++ ((ch.drop x2.toNat).take 1))) (b := (l.drop x1.toNat)) rfl rfl (by simp only [List.length_append, List.length_take, List.length_drop]; omega)).yl ?_
      refine QOps.st rfl rfl (Yv.assign rfl).yl ?_
      refine QOps.nil ?_
      refine Run.ret ?_
      refine retQ.of (.inr rfl) rfl (.tmp rfl .nil) (fun w' hw' => ?_)
      exact ⟨_, _, _, rfl, (by simp only [List.length_append, List.length_take, List.length_drop]; omega), by omega, by omega, hw'.bel, hw'.ent _ (List.mem_of_getElem? (i := 0) rfl)⟩
    · try replace hc2 := of_decide_eq_false hc2
      refine Run.seq ?_
      refine Run.quiet (by intro h; cases h) ?_
      refine QOps.st rfl rfl (Yv.eqI rfl rfl).yl ?_
      refine QOps.st rfl rfl (Yv.assign rfl).yl ?_
      refine QOps.nil ?_
      refine Run.cond rfl (fun hc3 => ?_) (fun hc3 => ?_)
      · try replace hc3 := of_decide_eq_true hc3
        refine Run.seq ?_
        refine Run.quiet (fun _ => ⟨by kernel_rfl, by kernel_rfl⟩) ?_
        refine QOps.st rfl rfl (Yv.move rfl).yl ?_
        refine QOps.st rfl rfl (Yv.move rfl).yl ?_
        refine QOps.st rfl rfl (Yv.strTo (a := l) x1.toNat str9 rfl rfl (by omega) (by omega)).yl ?_
        refine QOps.st rfl rfl (Yv.move rfl).yl ?_
        refine QOps.st rfl rfl (Yv.strAdd (a := (l.take x1.toNat)) (b := ((ch.drop x2.toNat).take 1)) rfl rfl (by simp only [List.length_append, List.length_take, List.length_drop]; omega)).yl ?_
        refine QOps.st rfl rfl (Yv.move rfl).yl ?_
        refine QOps.st rfl rfl (Yv.move rfl).yl ?_
        refine QOps.st rfl rfl (Yv.add rfl rfl (by omega)).yl ?_
        refine QOps.st rfl rfl (Yv.strFrom (a := l) (x1.toNat + 1) str9 rfl rfl (by omega) (by omega)).yl ?_
        refine QOps.st rfl rfl (Yv.strAdd (a := ((l.take x1.toNat) ++ ((ch.drop x2.toNat).take 1))) (b := (l.drop (x1.toNat + 1))) rfl rfl (by simp only [List.length_append, List.length_take, List.length_drop]; omega)).yl ?_
        refine QOps.st rfl rfl (Yv.assign rfl).yl ?_
        refine QOps.nil ?_
        refine Run.ret ?_
        refine retQ.of (.inr rfl) rfl (.tmp rfl .nil) (fun w' hw' => ?_)
        exact ⟨_, _, _, rfl, (by simp only [List.length_append, List.length_take, List.length_drop]; omega), by omega, by omega, hw'.bel, hw'.ent _ (List.mem_of_getElem? (i := 0) rfl)⟩
      · try replace hc3 := of_decide_eq_false hc3
        refine Run.skip ?_
        refine Run.seq ?_
        refine Run.quiet (fun _ => ⟨by kernel_rfl, by kernel_rfl⟩) ?_
        refine QOps.st rfl rfl (Yv.move rfl).yl ?_
        refine QOps.st rfl rfl (Yv.move rfl).yl ?_
        refine QOps.st rfl rfl (Yv.strTo (a := l) x1.toNat str9 rfl rfl (by omega) (by omega)).yl ?_
        refine QOps.st rfl rfl (Yv.move rfl).yl ?_
        refine QOps.st rfl rfl (Yv.move rfl).yl ?_
        refine QOps.st rfl rfl (Yv.add rfl rfl (by omega)).yl ?_
        refine QOps.st rfl rfl (Yv.strFrom (a := l) (x1.toNat + 1) str9 rfl rfl (by omega) (by omega)).yl ?_
        refine QOps.st rfl rfl (Yv.strAdd (a := (l.take x1.toNat)) (b := (l.drop (x1.toNat + 1))) rfl rfl (by simp only [List.length_append, List.length_take, List.length_drop]; omega)).yl ?_
        refine QOps.st rfl rfl (Yv.assign rfl).yl ?_
        refine QOps.nil ?_
        refine Run.ret ?_
        refine retQ.of (.inr rfl) rfl (.tmp rfl .nil) (fun w' hw' => ?_)
        exact ⟨_, _, _, rfl, (by simp only [List.length_append, List.length_take, List.length_drop]; omega), by omega, by omega, hw'.bel, hw'.ent _ (List.mem_of_getElem? (i := 0) rfl)⟩

theorem DrawNoticeText_spec {w : World} {A : Option Addr} {c : Nat} {xs : List UInt8} (hs : Sl w 1 A xs.length c (xs.flatMap byteC)) :
    Calls Tryz.prog 5 #[.slice A xs.length c] w (RetE w (fun (x : Notice) => .agg x.enc.toArray) (fun _ => True)) := by
  refine calls_of_run (vs := [_]) (L := [(0, _)]) (n := 12) (F := []) (H := []) Tryz.func5 rfl rfl rfl rfl (HOk.start _) ?_
  refine Run.seq ?_
  refine Run.ops ?_
  refine SOps.one rfl (One.alloc rfl zero25 (fun b1 => ?_))
  refine SOps.nil ?_
  refine Run.seq ?_
  refine Run.ops ?_
  refine SOps.st rfl rfl (Yv.move rfl).yl ?_
  refine SOps.st rfl rfl (Yv.buildG (pv := [(0, _)]) (cs := [_, _, _]) (fun l => match l with | [a0_0] => [a0_0, .int .i64 0, .int .u64 0] | _ => []) (.cons rfl (.nil)) rfl rfl (by kernel_rfl)).yl ?_
  refine SOps.one rfl (One.box (cs := [_, _, _]) rfl rfl rfl (fun b2 => ?_))
  refine SOps.st rfl rfl (Yv.assign rfl).yl ?_
  refine SOps.nil ?_
  refine Run.seq ?_
  refine Run.ops ?_
  refine SOps.st rfl rfl (Yv.move rfl).yl ?_
  refine SOps.st rfl rfl (Yv.move rfl).yl ?_
  refine SOps.one rfl (One.buildSliceG (pv := [(0, _), (1, _), (2, _)]) (cs := [_, _, _]) (fun l => match l with | [a0_0, a1_0, a2_0] => [a0_0, a1_0, a2_0] | _ => []) rfl el35 (.cons rfl (.cons rfl (.cons rfl (.nil)))) rfl rfl (by kernel_rfl) rfl rfl (fun b3 => ?_))
  refine SOps.one rfl (One.callC (i := 1) (H' := fun _ _ => [_, _, _]) rfl callable21 (.cons rfl (.cons rfl (.nil))) rfl (fun w' hw' => among_spec (Cur.own hs (i := 1) rfl hw') (by omega) (by omega) (l := [1, 12, 999]) ((Rd.row (i := 0) rfl) w' hw') (by simp; try omega) (by first | omega | simp) (by first | omega | simp) (fun hm => HOk.rowNe hw' (i := 1) (j := 0) rfl rfl rfl (by first | exact hm | omega))) (fun _ _ => rfl) (fun x1 at1 sd1 hx1 ha1 hb1 => ?_))
  refine SOps.one rfl (One.callC (i := 1) (H' := fun _ _ => [_, _, _]) rfl callable20 (.cons rfl (.cons rfl (.nil))) rfl (fun w' hw' => notice_spec (Cur.own hs (i := 1) rfl hw') (by omega) (by omega)) (fun _ _ => rfl) (fun x2 at2 sd2 _ ha2 hb2 => ?_))
  refine SOps.one rfl (One.store (i := 2) (off := 0) (vs := [_, _, _, _, _, _, _]) (cs' := [_, _, _, _, _, _, _]) (H' := [_, _, _]) lay25 rfl rfl rfl rfl rfl rfl rfl rfl rfl rfl ?_)
  refine SOps.nil ?_
  refine Run.ret ?_
  refine retQ.of (.inr rfl) rfl (.cells (i := 2) rfl lay25 rfl rfl .nil) (fun w' hw' => ?_)
  exact ⟨x2, rfl, trivial, hw'.bel.below⟩

theorem DrawParseNotice_spec {w : World} {A : Option Addr} {c : Nat} {xs : List UInt8} (hs : Sl w 1 A xs.length c (xs.flatMap byteC)) :
    Calls Tryz.prog 9 #[.slice A xs.length c] w (RetE w (fun (x : List UInt8) => strV x) (fun x => x.length ≤ 100)) := by
  refine calls_of_run (vs := [_]) (L := [(0, _)]) (n := 24) (F := []) (H := []) Tryz.func9 rfl rfl rfl rfl (HOk.start _) ?_
  refine Run.seq ?_
  refine Run.quiet (by intro h; cases h) ?_
  refine QOps.st rfl rfl (Yv.assign rfl).yl ?_
  refine QOps.nil ?_
  refine Run.seq ?_
  refine Run.ops ?_
  refine SOps.st rfl rfl (Yv.move rfl).yl ?_
  refine SOps.st rfl rfl (Yv.buildG (pv := [(0, _)]) (cs := [_, _, _]) (fun l => match l with | [a0_0] => [a0_0, .int .i64 0, .int .u64 0] | _ => []) (.cons rfl (.nil)) rfl rfl (by kernel_rfl)).yl ?_
  refine SOps.one rfl (One.box (cs := [_, _, _]) rfl rfl rfl (fun b1 => ?_))
  refine SOps.st rfl rfl (Yv.assign rfl).yl ?_
  refine SOps.nil ?_
  refine Run.seq ?_
  refine Run.ops ?_
  refine SOps.st rfl rfl (Yv.move rfl).yl ?_
  refine SOps.st rfl rfl (Yv.move rfl).yl ?_
  refine SOps.one rfl (One.buildSliceG (pv := [(0, _), (1, _), (2, _)]) (cs := [_, _, _]) (fun l => match l with | [a0_0, a1_0, a2_0] => [a0_0, a1_0, a2_0] | _ => []) rfl el35 (.cons rfl (.cons rfl (.cons rfl (.nil)))) rfl rfl (by kernel_rfl) rfl rfl (fun b2 => ?_))
  refine SOps.one rfl (One.callC (i := 1) (H' := fun _ _ => [_, _]) rfl callable21 (.cons rfl (.cons rfl (.nil))) rfl (fun w' hw' => among_spec (Cur.own hs (i := 1) rfl hw') (by omega) (by omega) (l := [1, 12, 999]) ((Rd.row (i := 0) rfl) w' hw') (by simp; try omega) (by first | omega | simp) (by first | omega | simp) (fun hm => HOk.rowNe hw' (i := 1) (j := 0) rfl rfl rfl (by first | exact hm | omega))) (fun _ _ => rfl) (fun x1 at1 sd1 hx1 ha1 hb1 => ?_))
  refine SOps.one rfl (One.callC (i := 1) (H' := fun _ _ => [_, _]) rfl callable20 (.cons rfl (.cons rfl (.nil))) rfl (fun w' hw' => notice_spec (Cur.own hs (i := 1) rfl hw') (by omega) (by omega)) (fun _ _ => rfl) (fun x2 at2 sd2 _ ha2 hb2 => ?_))
  refine SOps.st rfl rfl (Yl.call callable7 (.cons rfl (.nil)) (fun w' hw' => sNoticeText_spec)) ?_
  refine SOps.st rfl rfl (Yv.move rfl).yl ?_
  refine SOps.st rfl rfl (Yv.extract rfl rfl).yl ?_
  refine SOps.st rfl rfl (Yv.extract rfl rfl).yl ?_
  refine SOps.st rfl rfl (Yv.assign rfl).yl ?_
  refine SOps.st rfl rfl (Yv.assign rfl).yl ?_
  refine SOps.nil ?_
  have htl := text_len (n := x2)
  refine Run.seq ?_
  refine Run.seq ?_
  refine Run.ops ?_
  refine SOps.st rfl rfl (Yv.move rfl).yl ?_
  refine SOps.one rfl (One.callC (i := 1) (H' := fun _ _ => [_, _]) rfl callable30 (.cons rfl (.cons rfl (.nil))) rfl (fun w' hw' => one_spec (Cur.own hs (i := 1) rfl hw') (by omega) (by omega)) (fun _ _ => rfl) (fun x3 at3 sd3 _ ha3 hb3 => ?_))
  refine SOps.nil ?_
  refine Run.cond rfl (fun hc1 => ?_) (fun hc1 => ?_)
  · try replace hc1 := of_decide_eq_true hc1
    refine Run.ops ?_
    refine SOps.st rfl rfl (Yv.move rfl).yl ?_
    refine SOps.st rfl rfl (Yv.move rfl).yl ?_
    refine SOps.one rfl (One.callC (i := 1) (H' := fun _ _ => [_, _]) rfl callable31 (.cons rfl (.cons rfl (.cons rfl (.nil)))) rfl (fun w' hw' => spoilt_spec (Cur.own hs (i := 1) rfl hw') (by omega) (by omega) (by omega) (by simp)) (fun _ _ => rfl) (fun x4 at4 sd4 hx4 ha4 hb4 => ?_))
    refine SOps.st rfl rfl (Yv.assign rfl).yl ?_
    refine SOps.nil ?_
    refine Run.seq ?_
    refine Run.quiet (by intro h; cases h) ?_
    refine QOps.st rfl rfl (Yv.move rfl).yl ?_
    refine QOps.st rfl rfl (Yv.assign rfl).yl ?_
    refine QOps.nil ?_
    refine Run.ret ?_
    refine retQ.of (.inr rfl) rfl (.tmp rfl .nil) (fun w' hw' => ?_)
    exact ⟨_, rfl, (by first | omega | (simp; omega)), hw'.bel.below⟩
  · try replace hc1 := of_decide_eq_false hc1
    refine Run.skip ?_
    refine Run.seq ?_
    refine Run.quiet (by intro h; cases h) ?_
    refine QOps.st rfl rfl (Yv.move rfl).yl ?_
    refine QOps.st rfl rfl (Yv.assign rfl).yl ?_
    refine QOps.nil ?_
    refine Run.ret ?_
    refine retQ.of (.inr rfl) rfl (.tmp rfl .nil) (fun w' hw' => ?_)
    exact ⟨_, rfl, (by first | omega | (simp; omega)), hw'.bel.below⟩

end Go.Proofs.YtjabeiolgghfdaaGreatDoor
