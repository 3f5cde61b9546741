/- Reports: their messages. Conditions: none. -/
import Derived.Test.YtlpgcbkialcjcaaGreatDoorTab
import Derived.Test.YtlpgcbkialcjcaaGreatDoorBase
import Derived.Test.YtlpgcbkialcjcaaGreatDoorGl
import Derived.Test.YtlpgcbkialcjcaaGreatDoorI
import Derived.Lib.AppendIntMem
import Derived.Lib.Bytealg
namespace Go.Proofs.YtlpgcbkialcjcaaGreatDoor
open Go.RowKit
set_option maxRecDepth 100000
structure Report where
  vessel : Int
  number : Int
  kind : Int
  place : Int
  minute : Int
  cones : Int
instance : Inhabited Report := ⟨⟨0, 0, 0, 0, 0, 0⟩⟩
def Report.enc (f : Report) : List Value := [.int .i64 f.vessel, .int .i64 f.number, .int .i64 f.kind, .int .i64 f.place, .int .i64 f.minute, .int .i64 f.cones]
theorem Report.len (f : Report) : f.enc.length = 6 := rfl
theorem Report.one (f : Report) : f.enc.all Value.oneCell' = true := rfl

theorem inside_spec {w : World} {n lo hi : Int} : Calls Tryz.prog 26 #[.int .i64 n, .int .i64 lo, .int .i64 hi] w (RetB w (.bool (inB n lo hi))) := by
  refine calls_of_run (vs := [_, _, _]) (L := [(0, _), (1, _), (2, _)]) (n := 15) (F := []) (H := []) Tryz.func26 rfl rfl rfl rfl (HOk.start _) ?_
  refine Run.seq ?_
  refine Run.quiet (by intro h; cases h) ?_
  refine QOps.st rfl rfl (Yv.assign rfl).yl ?_
  refine QOps.nil ?_
  refine Run.seq ?_
  refine Run.quiet (by intro h; cases h) ?_
  refine QOps.st rfl rfl (Yv.move rfl).yl ?_
  refine QOps.st rfl rfl (Yv.move rfl).yl ?_
  refine QOps.st rfl rfl (Yv.geq rfl rfl).yl ?_
  refine QOps.st rfl rfl (Yv.move rfl).yl ?_
  refine' QOps.and [_, _, _] _ (.tmp 13) rfl rfl rfl rfl rfl rfl (fun hg1 => ?_) ?_
  rotate_left
  · try replace hg1 := of_decide_eq_true hg1
    refine QOps.st rfl rfl (Yv.move rfl).yl ?_
    refine QOps.st rfl rfl (Yv.move rfl).yl ?_
    refine QOps.st rfl rfl (Yv.leq rfl rfl).yl ?_
    exact QOps.nil rfl
  refine QOps.st rfl rfl (Yv.assign rfl).yl ?_
  refine QOps.nil ?_
  refine Run.ret ?_
  refine retQ.of (.inr rfl) rfl (.tmp rfl .nil) (fun w' hw' => ?_)
  refine ⟨?_, hw'.bel.below⟩
  exact rfl

theorem l1In_spec {w : World} {n lo hi : Int} : Calls Tryz.prog 54 #[.int .i64 n, .int .i64 lo, .int .i64 hi] w (RetB w (.bool (inB n lo hi))) := by
  refine calls_of_run (vs := [_, _, _]) (L := [(0, _), (1, _), (2, _)]) (n := 15) (F := []) (H := []) Tryz.func54 rfl rfl rfl rfl (HOk.start _) ?_
  refine Run.seq ?_
  refine Run.quiet (by intro h; cases h) ?_
  refine QOps.st rfl rfl (Yv.assign rfl).yl ?_
  refine QOps.nil ?_
  refine Run.seq ?_
  refine Run.quiet (by intro h; cases h) ?_
  refine QOps.st rfl rfl (Yv.move rfl).yl ?_
  refine QOps.st rfl rfl (Yv.move rfl).yl ?_
  refine QOps.st rfl rfl (Yv.geq rfl rfl).yl ?_
  refine QOps.st rfl rfl (Yv.move rfl).yl ?_
  refine' QOps.and [_, _, _] _ (.tmp 13) rfl rfl rfl rfl rfl rfl (fun hg1 => ?_) ?_
  rotate_left
  · try replace hg1 := of_decide_eq_true hg1
    refine QOps.st rfl rfl (Yv.move rfl).yl ?_
    refine QOps.st rfl rfl (Yv.move rfl).yl ?_
    refine QOps.st rfl rfl (Yv.leq rfl rfl).yl ?_
    exact QOps.nil rfl
  refine QOps.st rfl rfl (Yv.assign rfl).yl ?_
  refine QOps.nil ?_
  refine Run.ret ?_
  refine retQ.of (.inr rfl) rfl (.tmp rfl .nil) (fun w' hw' => ?_)
  refine ⟨?_, hw'.bel.below⟩
  exact rfl

theorem isKilometer_spec {w : World} {n : Int} : Calls Tryz.prog 27 #[.int .i64 n] w (RetB w (.bool (inB n 0 600))) := by
  refine calls_of_run (vs := [_]) (L := [(0, _)]) (n := 5) (F := []) (H := []) Tryz.func27 rfl rfl rfl rfl (HOk.start _) ?_
  refine Run.seq ?_
  refine Run.quiet (by intro h; cases h) ?_
  refine QOps.st rfl rfl (Yv.assign rfl).yl ?_
  refine QOps.nil ?_
  refine Run.seq ?_
  refine Run.quiet (by intro h; cases h) ?_
  refine QOps.st rfl rfl (Yv.move rfl).yl ?_
  refine QOps.st rfl rfl (Yl.call callable26 (.cons rfl (.cons rfl (.cons rfl (.nil)))) (fun w' hw' => inside_spec)) ?_
  refine QOps.st rfl rfl (Yv.assign rfl).yl ?_
  refine QOps.nil ?_
  refine Run.ret ?_
  refine retQ.of (.inr rfl) rfl (.tmp rfl .nil) (fun w' hw' => ?_)
  refine ⟨?_, hw'.bel.below⟩
  exact rfl

theorem l17Place_spec {w : World} {n : Int} : Calls Tryz.prog 55 #[.int .i64 n] w (RetB w (.bool (inB n 0 600))) := by
  refine calls_of_run (vs := [_]) (L := [(0, _)]) (n := 5) (F := []) (H := []) Tryz.func55 rfl rfl rfl rfl (HOk.start _) ?_
  refine Run.seq ?_
  refine Run.quiet (by intro h; cases h) ?_
  refine QOps.st rfl rfl (Yv.assign rfl).yl ?_
  refine QOps.nil ?_
  refine Run.seq ?_
  refine Run.quiet (by intro h; cases h) ?_
  refine QOps.st rfl rfl (Yv.move rfl).yl ?_
  refine QOps.st rfl rfl (Yl.call callable54 (.cons rfl (.cons rfl (.cons rfl (.nil)))) (fun w' hw' => l1In_spec)) ?_
  refine QOps.st rfl rfl (Yv.assign rfl).yl ?_
  refine QOps.nil ?_
  refine Run.ret ?_
  refine retQ.of (.inr rfl) rfl (.tmp rfl .nil) (fun w' hw' => ?_)
  refine ⟨?_, hw'.bel.below⟩
  exact rfl

theorem isMinute_spec {w : World} {n : Int} : Calls Tryz.prog 28 #[.int .i64 n] w (RetB w (.bool (inB n 0 9999))) := by
  refine calls_of_run (vs := [_]) (L := [(0, _)]) (n := 5) (F := []) (H := []) Tryz.func28 rfl rfl rfl rfl (HOk.start _) ?_
  refine Run.seq ?_
  refine Run.quiet (by intro h; cases h) ?_
  refine QOps.st rfl rfl (Yv.assign rfl).yl ?_
  refine QOps.nil ?_
  refine Run.seq ?_
  refine Run.quiet (by intro h; cases h) ?_
  refine QOps.st rfl rfl (Yv.move rfl).yl ?_
  refine QOps.st rfl rfl (Yl.call callable26 (.cons rfl (.cons rfl (.cons rfl (.nil)))) (fun w' hw' => inside_spec)) ?_
  refine QOps.st rfl rfl (Yv.assign rfl).yl ?_
  refine QOps.nil ?_
  refine Run.ret ?_
  refine retQ.of (.inr rfl) rfl (.tmp rfl .nil) (fun w' hw' => ?_)
  refine ⟨?_, hw'.bel.below⟩
  exact rfl

/-- A report's numbers are in their ranges. -/
def oneR (r : Report) : Bool := inB r.vessel 1 99 && inB r.number 1 999 && inB r.kind 1 3 && inB r.place 0 600 && inB r.minute 0 9999 && inB r.cones 0 3
theorem IsEReport_spec {w : World} {r : Report} : Calls Tryz.prog 8 #[.agg r.enc.toArray] w (RetB w (.bool (oneR r))) := by
  refine calls_of_run (vs := [_]) (L := [(0, _)]) (n := 31) (F := []) (H := []) Tryz.func8 rfl rfl rfl rfl (HOk.start _) ?_
  refine Run.seq ?_
  refine Run.ops ?_
  refine SOps.one rfl (One.box (cs := [_, _, _, _, _, _]) rfl rfl rfl (fun b1 => ?_))
  refine SOps.st rfl rfl (Yv.assign rfl).yl ?_
  refine SOps.nil ?_
  refine Run.seq ?_
  refine Run.quiet (by intro h; cases h) ?_
  refine QOps.st rfl rfl (Yv.fieldAddr fld25_0 rfl).yl ?_
  refine QOps.st rfl rfl (Yv.loadB (i := 0) lay3 rfl rfl rfl rfl).yl ?_
  refine QOps.st rfl rfl (Yl.call callable26 (.cons rfl (.cons rfl (.cons rfl (.nil)))) (fun w' hw' => inside_spec)) ?_
  refine QOps.st rfl rfl (Yv.move rfl).yl ?_
  refine' QOps.and [_, _, _] _ (.tmp 9) rfl rfl rfl rfl rfl rfl (fun hg1 => ?_) ?_
  rotate_left
  · try replace hg1 := of_decide_eq_true hg1
    refine QOps.st rfl rfl (Yv.fieldAddr fld25_1 rfl).yl ?_
    refine QOps.st rfl rfl (Yv.loadB (i := 0) lay3 rfl rfl rfl rfl).yl ?_
    refine QOps.st rfl rfl (Yl.call callable26 (.cons rfl (.cons rfl (.cons rfl (.nil)))) (fun w' hw' => inside_spec)) ?_
    exact QOps.nil rfl
  refine QOps.st rfl rfl (Yv.move rfl).yl ?_
  refine' QOps.and [_, _, _] _ (.tmp 14) rfl rfl rfl rfl rfl rfl (fun hg2 => ?_) ?_
  rotate_left
  · try replace hg2 := of_decide_eq_true hg2
    refine QOps.st rfl rfl (Yv.fieldAddr fld25_2 rfl).yl ?_
    refine QOps.st rfl rfl (Yv.loadB (i := 0) lay3 rfl rfl rfl rfl).yl ?_
    refine QOps.st rfl rfl (Yl.call callable26 (.cons rfl (.cons rfl (.cons rfl (.nil)))) (fun w' hw' => inside_spec)) ?_
    exact QOps.nil rfl
  refine QOps.st rfl rfl (Yv.move rfl).yl ?_
  refine' QOps.and [_, _, _] _ (.tmp 19) rfl rfl rfl rfl rfl rfl (fun hg3 => ?_) ?_
  rotate_left
  · try replace hg3 := of_decide_eq_true hg3
    refine QOps.st rfl rfl (Yv.fieldAddr fld25_3 rfl).yl ?_
    refine QOps.st rfl rfl (Yv.loadB (i := 0) lay3 rfl rfl rfl rfl).yl ?_
    refine QOps.st rfl rfl (Yl.call callable27 (.cons rfl (.nil)) (fun w' hw' => isKilometer_spec)) ?_
    exact QOps.nil rfl
  refine QOps.st rfl rfl (Yv.move rfl).yl ?_
  refine' QOps.and [_, _, _] _ (.tmp 24) rfl rfl rfl rfl rfl rfl (fun hg4 => ?_) ?_
  rotate_left
  · try replace hg4 := of_decide_eq_true hg4
    refine QOps.st rfl rfl (Yv.fieldAddr fld25_4 rfl).yl ?_
    refine QOps.st rfl rfl (Yv.loadB (i := 0) lay3 rfl rfl rfl rfl).yl ?_
    refine QOps.st rfl rfl (Yl.call callable28 (.cons rfl (.nil)) (fun w' hw' => isMinute_spec)) ?_
    exact QOps.nil rfl
  refine QOps.st rfl rfl (Yv.move rfl).yl ?_
  refine' QOps.and [_, _, _] _ (.tmp 29) rfl rfl rfl rfl rfl rfl (fun hg5 => ?_) ?_
  rotate_left
  · try replace hg5 := of_decide_eq_true hg5
    refine QOps.st rfl rfl (Yv.fieldAddr fld25_5 rfl).yl ?_
    refine QOps.st rfl rfl (Yv.loadB (i := 0) lay3 rfl rfl rfl rfl).yl ?_
    refine QOps.st rfl rfl (Yl.call callable26 (.cons rfl (.cons rfl (.cons rfl (.nil)))) (fun w' hw' => inside_spec)) ?_
    exact QOps.nil rfl
  refine QOps.st rfl rfl (Yv.assign rfl).yl ?_
  refine QOps.nil ?_
  refine Run.ret ?_
  refine retQ.of (.inr rfl) rfl (.tmp rfl .nil) (fun w' hw' => ?_)
  refine ⟨?_, hw'.bel.below⟩
  exact rfl

theorem l20One_spec {w : World} {r : Report} : Calls Tryz.prog 24 #[.agg r.enc.toArray] w (RetB w (.bool (oneR r))) := by
  refine calls_of_run (vs := [_]) (L := [(0, _)]) (n := 31) (F := []) (H := []) Tryz.func24 rfl rfl rfl rfl (HOk.start _) ?_
  refine Run.seq ?_
  refine Run.ops ?_
  refine SOps.one rfl (One.box (cs := [_, _, _, _, _, _]) rfl rfl rfl (fun b1 => ?_))
  refine SOps.st rfl rfl (Yv.assign rfl).yl ?_
  refine SOps.nil ?_
  refine Run.seq ?_
  refine Run.quiet (by intro h; cases h) ?_
  refine QOps.st rfl rfl (Yv.fieldAddr fld25_0 rfl).yl ?_
  refine QOps.st rfl rfl (Yv.loadB (i := 0) lay3 rfl rfl rfl rfl).yl ?_
  refine QOps.st rfl rfl (Yl.call callable54 (.cons rfl (.cons rfl (.cons rfl (.nil)))) (fun w' hw' => l1In_spec)) ?_
  refine QOps.st rfl rfl (Yv.move rfl).yl ?_
  refine' QOps.and [_, _, _] _ (.tmp 9) rfl rfl rfl rfl rfl rfl (fun hg1 => ?_) ?_
  rotate_left
  · try replace hg1 := of_decide_eq_true hg1
    refine QOps.st rfl rfl (Yv.fieldAddr fld25_1 rfl).yl ?_
    refine QOps.st rfl rfl (Yv.loadB (i := 0) lay3 rfl rfl rfl rfl).yl ?_
    refine QOps.st rfl rfl (Yl.call callable54 (.cons rfl (.cons rfl (.cons rfl (.nil)))) (fun w' hw' => l1In_spec)) ?_
    exact QOps.nil rfl
  refine QOps.st rfl rfl (Yv.move rfl).yl ?_
  refine' QOps.and [_, _, _] _ (.tmp 14) rfl rfl rfl rfl rfl rfl (fun hg2 => ?_) ?_
  rotate_left
  · try replace hg2 := of_decide_eq_true hg2
    refine QOps.st rfl rfl (Yv.fieldAddr fld25_2 rfl).yl ?_
    refine QOps.st rfl rfl (Yv.loadB (i := 0) lay3 rfl rfl rfl rfl).yl ?_
    refine QOps.st rfl rfl (Yl.call callable54 (.cons rfl (.cons rfl (.cons rfl (.nil)))) (fun w' hw' => l1In_spec)) ?_
    exact QOps.nil rfl
  refine QOps.st rfl rfl (Yv.move rfl).yl ?_
  refine' QOps.and [_, _, _] _ (.tmp 19) rfl rfl rfl rfl rfl rfl (fun hg3 => ?_) ?_
  rotate_left
  · try replace hg3 := of_decide_eq_true hg3
    refine QOps.st rfl rfl (Yv.fieldAddr fld25_3 rfl).yl ?_
    refine QOps.st rfl rfl (Yv.loadB (i := 0) lay3 rfl rfl rfl rfl).yl ?_
    refine QOps.st rfl rfl (Yl.call callable55 (.cons rfl (.nil)) (fun w' hw' => l17Place_spec)) ?_
    exact QOps.nil rfl
  refine QOps.st rfl rfl (Yv.move rfl).yl ?_
  refine' QOps.and [_, _, _] _ (.tmp 24) rfl rfl rfl rfl rfl rfl (fun hg4 => ?_) ?_
  rotate_left
  · try replace hg4 := of_decide_eq_true hg4
    refine QOps.st rfl rfl (Yv.fieldAddr fld25_4 rfl).yl ?_
    refine QOps.st rfl rfl (Yv.loadB (i := 0) lay3 rfl rfl rfl rfl).yl ?_
    refine QOps.st rfl rfl (Yl.call callable54 (.cons rfl (.cons rfl (.cons rfl (.nil)))) (fun w' hw' => l1In_spec)) ?_
    exact QOps.nil rfl
  refine QOps.st rfl rfl (Yv.move rfl).yl ?_
  refine' QOps.and [_, _, _] _ (.tmp 29) rfl rfl rfl rfl rfl rfl (fun hg5 => ?_) ?_
  rotate_left
  · try replace hg5 := of_decide_eq_true hg5
    refine QOps.st rfl rfl (Yv.fieldAddr fld25_5 rfl).yl ?_
    refine QOps.st rfl rfl (Yv.loadB (i := 0) lay3 rfl rfl rfl rfl).yl ?_
    refine QOps.st rfl rfl (Yl.call callable54 (.cons rfl (.cons rfl (.cons rfl (.nil)))) (fun w' hw' => l1In_spec)) ?_
    exact QOps.nil rfl
  refine QOps.st rfl rfl (Yv.assign rfl).yl ?_
  refine QOps.nil ?_
  refine Run.ret ?_
  refine retQ.of (.inr rfl) rfl (.tmp rfl .nil) (fun w' hw' => ?_)
  refine ⟨?_, hw'.bel.below⟩
  exact rfl

/-! Decimal numerals -/
abbrev Tab10 (w : World) : Prop := Lib.TabIs Tryz.prog w "internal/strconv.uint64pow10" .u64 Lib.pow10Tab
theorem tab_at {w w' : World} {H : List HEnt} (h : Tab10 w) (hw : HOk w [] H w') : Tab10 w' := Lib.tabBelow_of_tabIs h w' hw.bel.below
abbrev dec (n : Int) : List UInt8 := Lib.decDigits n.toNat
theorem dig_len : ∀ (k : Nat) {n : Nat}, n < 10 ^ (k + 1) → (Lib.decDigits n).length ≤ k + 1
  | 0, n, h => by
    rw [Lib.decDigits, dif_pos (by simpa using h)]
    simp
  | k + 1, n, h => by
    rw [Lib.decDigits]
    split
    · simp
    · rw [List.length_append]
      have := dig_len k (n := n / 10) (by rw [Nat.pow_succ] at h; omega)
      simp
      omega
theorem dec_len {n : Int} (h0 : 0 ≤ n) (h : n ≤ 999999) : (dec n).length ≤ 7 := by
  have := dig_len 6 (n := n.toNat) (by omega)
  exact this
theorem itoa_spec {w : World} {n : Int} (htab : Tab10 w) (h0 : 0 ≤ n) (h1 : n ≤ 999999) : Calls Tryz.prog 52 #[.int .i64 n] w (RetB w (strV (dec n))) :=
  (Tryz.strconv_Itoa n (by omega) (by omega) w htab).mono fun e w' ⟨he, k, os, hw⟩ => ⟨by rw [he, Lib.itoa, if_neg (by omega)], by rw [hw]; exact Lib.below_grow _ _ (Nat.le_refl _) k os⟩
theorem digit_at : ∀ n : Nat, n < 10 → (([48, 49, 50, 51, 52, 53, 54, 55, 56, 57] : List UInt8).drop n).take (n + 1 - n) = [UInt8.ofNat (48 + n)] := by decide
theorem l1Num_nat {w : World} {n : Nat} (hn : n ≤ 999999) : Calls Tryz.prog 57 #[.int .i64 (n : Int)] w (RetB w (strV (Lib.decDigits n))) := by
  have hdl := dig_len 6 (n := n / 10) (by omega)
  have htm : (n : Int).tmod 10 = ((n % 10 : Nat) : Int) := rfl
  refine calls_of_run (vs := [_]) (L := [(0, _)]) (n := 25) (F := []) (H := []) Tryz.func57 rfl rfl rfl rfl (HOk.start _) ?_
  refine Run.seq ?_
  refine Run.quiet (by intro h; cases h) ?_
  refine QOps.st rfl rfl (Yv.assign rfl).yl ?_
  refine QOps.nil ?_
  refine Run.seq ?_
  refine Run.seq ?_
  refine Run.quiet (by intro h; cases h) ?_
  refine QOps.st rfl rfl (Yv.move rfl).yl ?_
  refine QOps.st rfl rfl (Yv.lss rfl rfl).yl ?_
  refine QOps.nil ?_
  refine Run.cond rfl (fun hc1 => ?_) (fun hc1 => ?_)
  · exfalso
    have h9 := of_decide_eq_true hc1
    omega
  · try replace hc1 := of_decide_eq_false hc1
    refine Run.skip ?_
    refine Run.seq ?_
    refine Run.seq ?_
    refine Run.quiet (by intro h; cases h) ?_
    refine QOps.st rfl rfl (Yv.move rfl).yl ?_
    refine QOps.st rfl rfl (Yv.lss rfl rfl).yl ?_
    refine QOps.nil ?_
    refine Run.cond rfl (fun hc2 => ?_) (fun hc2 => ?_)
    · try replace hc2 := of_decide_eq_true hc2
      refine Run.seq ?_
      refine Run.quiet (by intro h; cases h) ?_
      refine QOps.st rfl rfl (Yv.move rfl).yl ?_
      refine QOps.st rfl rfl (Yv.move rfl).yl ?_
      refine QOps.st rfl rfl (Yv.succN rfl rfl (by omega)).yl ?_
      refine QOps.st rfl rfl (Yv.strCut (a := [48, 49, 50, 51, 52, 53, 54, 55, 56, 57]) n (n + 1) str9 rfl rfl rfl (by first | rfl | omega) (by first | rfl | omega) (by omega) (by simp; omega)).yl ?_
      refine QOps.st rfl rfl (Yv.assign rfl).yl ?_
      refine QOps.nil ?_
      refine Run.ret ?_
      refine retQ.of (.inr rfl) rfl (.tmp rfl .nil) (fun w' hw' => ?_)
      refine ⟨?_, hw'.bel.below⟩
      refine congrArg Ending.returned (congrArg strV ?_)
      rw [digit_at n (by omega), Lib.decDigits, dif_pos (by omega)]
    · try replace hc2 := of_decide_eq_false hc2
      refine Run.skip ?_
      refine Run.seq ?_
      refine Run.quiet (fun _ => ⟨by kernel_rfl, by kernel_rfl⟩) ?_
      refine QOps.st rfl rfl (Yv.move rfl).yl ?_
      refine QOps.st rfl rfl (Yv.quoP rfl rfl (by omega) (by omega) (by omega)).yl ?_
      refine QOps.st rfl rfl (Yl.call callable57 (.cons rfl (.nil)) (fun w' hw' => (show Calls _ _ #[.int .i64 ((n / 10 : Nat) : Int)] _ _ from l1Num_nat (by omega)))) ?_
      refine QOps.st rfl rfl (Yv.move rfl).yl ?_
      refine QOps.st rfl rfl (Yv.rem rfl rfl (by omega)).yl ?_
      refine QOps.st rfl rfl (Yv.move rfl).yl ?_
      refine QOps.st rfl rfl (Yv.rem rfl rfl (by omega)).yl ?_
      refine QOps.st rfl rfl (Yv.add rfl rfl (by omega)).yl ?_
      refine QOps.st rfl rfl (Yv.strCut (a := [48, 49, 50, 51, 52, 53, 54, 55, 56, 57]) (n % 10) (n % 10 + 1) str9 rfl rfl rfl (by first | rfl | omega) (by first | rfl | omega) (by omega) (by simp; omega)).yl ?_
      refine QOps.st rfl rfl (Yv.strAdd (a := (Lib.decDigits (n / 10))) (b := (([48, 49, 50, 51, 52, 53, 54, 55, 56, 57].drop (n % 10)).take ((n % 10 + 1) - (n % 10)))) rfl rfl (by simp only [List.length_take, List.length_drop]; omega)).yl ?_
      refine QOps.st rfl rfl (Yv.assign rfl).yl ?_
      refine QOps.nil ?_
      refine Run.ret ?_
      refine retQ.of (.inr rfl) rfl (.tmp rfl .nil) (fun w' hw' => ?_)
      refine ⟨?_, hw'.bel.below⟩
      refine congrArg Ending.returned (congrArg strV ?_)
      rw [digit_at (n % 10) (by omega)]
      conv => rhs; rw [Lib.decDigits, dif_neg (by omega)]
termination_by n
theorem l1Num_spec {w : World} {n : Int} (h0 : 0 ≤ n) (h1 : n ≤ 999999) : Calls Tryz.prog 57 #[.int .i64 n] w (RetB w (strV (dec n))) := by
  have h := l1Num_nat (w := w) (n := n.toNat) (by omega)
  rwa [show ((n.toNat : Nat) : Int) = n by omega] at h
/-! Checksums -/
def sumTo (l : List UInt8) : Nat → Int
  | 0 => 7
  | k + 1 => (41 * sumTo l k + ((nth l k).toNat : Int) + 1).tmod 999979
theorem sumTo_range {l : List UInt8} : ∀ {k : Nat}, 0 ≤ sumTo l k ∧ sumTo l k < 999979
  | 0 => by simp [sumTo]
  | k + 1 => by
    have ih := sumTo_range (l := l) (k := k)
    rw [sumTo]
    exact ⟨Int.tmod_nonneg _ (by omega), Int.tmod_lt_of_pos _ (by omega)⟩
def sumOf (l : List UInt8) : Int := sumTo l l.length
theorem checksum_spec {w : World} {l : List UInt8} (hl : l.length ≤ 4000) : Calls Tryz.prog 77 #[strV l] w (RetB w (.int .i64 (sumOf l))) := by
  refine calls_of_run (vs := [_]) (L := [(0, _)]) (n := 21) (F := []) (H := []) Tryz.func77 rfl rfl rfl rfl (HOk.start _) ?_
  refine Run.seq ?_
  refine Run.quiet (by intro h; cases h) ?_
  refine QOps.st rfl rfl (Yv.assign rfl).yl ?_
  refine QOps.nil ?_
  refine Run.seq ?_
  refine Run.quiet (by intro h; cases h) ?_
  refine QOps.st rfl rfl (Yv.assign rfl).yl ?_
  refine QOps.nil ?_
  refine Run.seq ?_
  refine Run.seq ?_
  refine Run.quiet (by intro h; cases h) ?_
  refine QOps.st rfl rfl (Yv.assign rfl).yl ?_
  refine QOps.nil ?_
  refine Run.block ?_
  refine Run.loop (S := Nat × Int) (fun s => match s with | (k, v) => k ≤ l.length ∧ v = sumTo l k) (fun s => match s with | (k, v) => [(0, strV l), (3, .int .i64 v), (4, .int .i64 (k : Int))]) (fun s => match s with | (k, v) => []) (fun s => match s with | (k, v) => l.length - k) (0, 7) ?_ (SubE.cons rfl (SubE.cons rfl (SubE.cons rfl (SubE.nil _)))) (List.Sublist.refl _) ?_
  · exact ⟨Nat.zero_le _, rfl⟩
  · rintro ⟨k, v⟩ ⟨hk, hv⟩
    show Run _ _ _ _ _ [(0, strV l), (3, .int .i64 v), (4, .int .i64 (k : Int))] [] _
    have hr := sumTo_range (l := l) (k := k)
    have hb := (nth l k).toNat_lt
    refine Run.seq ?_
    refine Run.seq ?_
    refine Run.quiet (by intro h; cases h) ?_
    refine QOps.st rfl rfl (Yv.move rfl).yl ?_
    refine QOps.st rfl rfl (Yv.move rfl).yl ?_
    refine QOps.st rfl rfl (Yv.strLen (a := l) str9 rfl).yl ?_
    refine QOps.st rfl rfl (Yv.lss rfl rfl).yl ?_
    refine QOps.nil ?_
    refine Run.cond rfl (fun hc1 => ?_) (fun hc1 => ?_)
    · try replace hc1 := of_decide_eq_true hc1
      refine Run.skip ?_
      refine Run.seq ?_
      refine Run.block ?_
      refine Run.quiet (by intro h; cases h) ?_
      refine QOps.st rfl rfl (Yv.move rfl).yl ?_
      refine QOps.st rfl rfl (Yv.mul rfl rfl (by omega)).yl ?_
      refine QOps.st rfl rfl (Yv.move rfl).yl ?_
      refine QOps.st rfl rfl (Yv.move rfl).yl ?_
      refine QOps.st rfl rfl (Yv.strIdx k str9 rfl rfl rfl (by omega)).yl ?_
      refine QOps.st rfl rfl (Yv.convT (j := ((nth l k).toNat : Int)) int5 int3 rfl (by have := (nth l k).toNat_lt; rw [IntKind.wrap_i64]; omega)).yl ?_
      refine QOps.st rfl rfl (Yv.add rfl rfl (by omega)).yl ?_
      refine QOps.st rfl rfl (Yv.add rfl rfl (by omega)).yl ?_
      refine QOps.st rfl rfl (Yv.rem rfl rfl (by omega)).yl ?_
      refine QOps.st rfl rfl (Yv.assign rfl).yl ?_
      refine QOps.nil ?_
      refine Run.quiet (by intro h; cases h) ?_
      refine QOps.st rfl rfl (Yv.move rfl).yl ?_
      refine QOps.st rfl rfl (Yv.succN rfl rfl (by omega)).yl ?_
      refine QOps.st rfl rfl (Yv.assign rfl).yl ?_
      refine QOps.nil ?_
      refine ⟨(k + 1, _), ?_, ?_, (SubE.cons rfl (SubE.cons rfl (SubE.cons rfl (SubE.nil _)))), (List.Sublist.refl _)⟩
      · exact ⟨by omega, by rw [sumTo, hv]⟩
      · first | omega | (dsimp only; omega)
    · try replace hc1 := of_decide_eq_false hc1
      refine Run.exit ?_
      refine Run.seq ?_
      refine Run.quiet (by intro h; cases h) ?_
      refine QOps.st rfl rfl (Yv.move rfl).yl ?_
      refine QOps.st rfl rfl (Yv.assign rfl).yl ?_
      refine QOps.nil ?_
      refine Run.ret ?_
      obtain rfl : k = l.length := by omega
      subst hv
      refine retQ.of (.inr rfl) rfl (.tmp rfl .nil) (fun w' hw' => ?_)
      refine ⟨?_, hw'.bel.below⟩
      exact rfl

theorem l1Sum_spec {w : World} {l : List UInt8} (hl : l.length ≤ 4000) : Calls Tryz.prog 78 #[strV l] w (RetB w (.int .i64 (sumOf l))) := by
  refine calls_of_run (vs := [_]) (L := [(0, _)]) (n := 21) (F := []) (H := []) Tryz.func78 rfl rfl rfl rfl (HOk.start _) ?_
  refine Run.seq ?_
  refine Run.quiet (by intro h; cases h) ?_
  refine QOps.st rfl rfl (Yv.assign rfl).yl ?_
  refine QOps.nil ?_
  refine Run.seq ?_
  refine Run.quiet (by intro h; cases h) ?_
  refine QOps.st rfl rfl (Yv.assign rfl).yl ?_
  refine QOps.nil ?_
  refine Run.seq ?_
  refine Run.seq ?_
  refine Run.quiet (by intro h; cases h) ?_
  refine QOps.st rfl rfl (Yv.assign rfl).yl ?_
  refine QOps.nil ?_
  refine Run.block ?_
  refine Run.loop (S := Nat × Int) (fun s => match s with | (k, v) => k ≤ l.length ∧ v = sumTo l k) (fun s => match s with | (k, v) => [(0, strV l), (3, .int .i64 v), (4, .int .i64 (k : Int))]) (fun s => match s with | (k, v) => []) (fun s => match s with | (k, v) => l.length - k) (0, 7) ?_ (SubE.cons rfl (SubE.cons rfl (SubE.cons rfl (SubE.nil _)))) (List.Sublist.refl _) ?_
  · exact ⟨Nat.zero_le _, rfl⟩
  · rintro ⟨k, v⟩ ⟨hk, hv⟩
    show Run _ _ _ _ _ [(0, strV l), (3, .int .i64 v), (4, .int .i64 (k : Int))] [] _
    have hr := sumTo_range (l := l) (k := k)
    have hb := (nth l k).toNat_lt
    refine Run.seq ?_
    refine Run.seq ?_
    refine Run.quiet (by intro h; cases h) ?_
    refine QOps.st rfl rfl (Yv.move rfl).yl ?_
    refine QOps.st rfl rfl (Yv.move rfl).yl ?_
    refine QOps.st rfl rfl (Yv.strLen (a := l) str9 rfl).yl ?_
    refine QOps.st rfl rfl (Yv.lss rfl rfl).yl ?_
    refine QOps.nil ?_
    refine Run.cond rfl (fun hc1 => ?_) (fun hc1 => ?_)
    · try replace hc1 := of_decide_eq_true hc1
      refine Run.skip ?_
      refine Run.seq ?_
      refine Run.block ?_
      refine Run.quiet (by intro h; cases h) ?_
      refine QOps.st rfl rfl (Yv.move rfl).yl ?_
      refine QOps.st rfl rfl (Yv.mul rfl rfl (by omega)).yl ?_
      refine QOps.st rfl rfl (Yv.move rfl).yl ?_
      refine QOps.st rfl rfl (Yv.move rfl).yl ?_
      refine QOps.st rfl rfl (Yv.strIdx k str9 rfl rfl rfl (by omega)).yl ?_
      refine QOps.st rfl rfl (Yv.convT (j := ((nth l k).toNat : Int)) int5 int3 rfl (by have := (nth l k).toNat_lt; rw [IntKind.wrap_i64]; omega)).yl ?_
      refine QOps.st rfl rfl (Yv.add rfl rfl (by omega)).yl ?_
      refine QOps.st rfl rfl (Yv.add rfl rfl (by omega)).yl ?_
      refine QOps.st rfl rfl (Yv.rem rfl rfl (by omega)).yl ?_
      refine QOps.st rfl rfl (Yv.assign rfl).yl ?_
      refine QOps.nil ?_
      refine Run.quiet (by intro h; cases h) ?_
      refine QOps.st rfl rfl (Yv.move rfl).yl ?_
      refine QOps.st rfl rfl (Yv.succN rfl rfl (by omega)).yl ?_
      refine QOps.st rfl rfl (Yv.assign rfl).yl ?_
      refine QOps.nil ?_
      refine ⟨(k + 1, _), ?_, ?_, (SubE.cons rfl (SubE.cons rfl (SubE.cons rfl (SubE.nil _)))), (List.Sublist.refl _)⟩
      · exact ⟨by omega, by rw [sumTo, hv]⟩
      · first | omega | (dsimp only; omega)
    · try replace hc1 := of_decide_eq_false hc1
      refine Run.exit ?_
      refine Run.seq ?_
      refine Run.quiet (by intro h; cases h) ?_
      refine QOps.st rfl rfl (Yv.move rfl).yl ?_
      refine QOps.st rfl rfl (Yv.assign rfl).yl ?_
      refine QOps.nil ?_
      refine Run.ret ?_
      obtain rfl : k = l.length := by omega
      subst hv
      refine retQ.of (.inr rfl) rfl (.tmp rfl .nil) (fun w' hw' => ?_)
      refine ⟨?_, hw'.bel.below⟩
      exact rfl

end Go.Proofs.YtlpgcbkialcjcaaGreatDoor
