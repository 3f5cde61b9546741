/- Reports: their messages are what the reference says; the law. Conditions: none. -/
import Derived.Test.YtlpgcbkialcjcaaGreatDoorZrA
import Derived.Lib.IndexAny
namespace Go.Proofs.YtlpgcbkialcjcaaGreatDoor
open Go.RowKit
set_option maxRecDepth 100000
theorem retS_eq {a b : List UInt8} (h : a = b) : Ending.returned (single [strV a]) = .returned (strV b) := by rw [h]; rfl
def wordsL : List (List UInt8) := [[], [100, 101, 112, 97, 114, 116, 115], [97, 114, 114, 105, 118, 101, 115], [99, 97, 110, 99, 101, 108, 115]]
abbrev Words (w : World) : Prop := ∀ k, k < 4 → w.cell? ⟨0, k, none⟩ = some (strV (nth wordsL k))
theorem words_at {w w' : World} {H : List HEnt} (h : Words w) (hw : HOk w [] H w') : Words w' := fun k hk => cell_stays (h k hk) hw
theorem word_len : ∀ k : Nat, k < 4 → (nth wordsL k).length ≤ 7 := by decide
theorem word_no : ∀ k : Nat, k < 4 → (35 : UInt8) ∉ nth wordsL k := by decide
def msgT (r : Report) : List UInt8 := ([118, 101, 115, 115, 101, 108, 32] : List UInt8) ++ dec r.vessel ++ ([32, 114, 101, 112, 111, 114, 116, 32] : List UInt8) ++ dec r.number ++ ([58, 32] : List UInt8) ++ nth wordsL r.kind.toNat ++ ([32, 97, 116, 32, 107, 109, 32] : List UInt8) ++ dec r.place ++ ([32, 109, 105, 110, 117, 116, 101, 32] : List UInt8) ++ dec r.minute ++ ([32, 99, 111, 110, 101, 115, 32] : List UInt8) ++ dec r.cones
def sealT (l : List UInt8) : List UInt8 := l ++ [35] ++ dec (sumOf l)
theorem one_bnd {r : Report} (h : oneR r = true) : (0 ≤ r.vessel ∧ r.vessel ≤ 999999) ∧ (0 ≤ r.number ∧ r.number ≤ 999999) ∧ (1 ≤ r.kind ∧ r.kind ≤ 3) ∧ (0 ≤ r.place ∧ r.place ≤ 999999) ∧ (0 ≤ r.minute ∧ r.minute ≤ 999999) ∧ (0 ≤ r.cones ∧ r.cones ≤ 999999) := by
  simp only [oneR, Bool.and_eq_true, inB_iff] at h
  omega
theorem dec_no {n : Nat} : (35 : UInt8) ∉ Lib.decDigits n := by
  induction n using Nat.strongRecOn with
  | _ n ih =>
    rw [Lib.decDigits]
    have hd : ∀ k : Nat, k < 10 → (35 : UInt8) ∉ [UInt8.ofNat (48 + k)] := by decide
    split
    · exact hd n (by omega)
    · intro h
      rcases List.mem_append.1 h with h | h
      · exact ih (n / 10) (by omega) h
      · exact hd (n % 10) (by omega) h
theorem msg_len {r : Report} (h : oneR r = true) : (msgT r).length ≤ 300 := by
  obtain ⟨⟨ha1, ha2⟩, ⟨hb1, hb2⟩, ⟨hd1, hd2⟩, ⟨he1, he2⟩, ⟨hf1, hf2⟩, ⟨hg1, hg2⟩⟩ := one_bnd h
  have l1 := dec_len ha1 ha2
  have l2 := dec_len hb1 hb2
  have l4 := dec_len he1 he2
  have l5 := dec_len hf1 hf2
  have l6 := dec_len hg1 hg2
  have l3 := word_len r.kind.toNat (by omega)
  simp only [msgT, List.length_append, List.length_cons, List.length_nil]
  omega
theorem msg_no {r : Report} (h : oneR r = true) : (msgT r).contains 35 = false := by
  obtain ⟨_, _, ⟨hd1, hd2⟩, _⟩ := one_bnd h
  rw [Bool.eq_false_iff]
  intro hc
  rw [List.contains_iff_mem] at hc
  simp only [msgT, List.mem_append] at hc
  have hw := word_no r.kind.toNat (by omega)
  have h1 : (35 : UInt8) ∉ ([118, 101, 115, 115, 101, 108, 32] : List UInt8) := by decide
  have h2 : (35 : UInt8) ∉ ([32, 114, 101, 112, 111, 114, 116, 32] : List UInt8) := by decide
  have h3 : (35 : UInt8) ∉ ([58, 32] : List UInt8) := by decide
  have h4 : (35 : UInt8) ∉ ([32, 97, 116, 32, 107, 109, 32] : List UInt8) := by decide
  have h5 : (35 : UInt8) ∉ ([32, 109, 105, 110, 117, 116, 101, 32] : List UInt8) := by decide
  have h6 : (35 : UInt8) ∉ ([32, 99, 111, 110, 101, 115, 32] : List UInt8) := by decide
  rcases hc with ((((((((((hc | hc) | hc) | hc) | hc) | hc) | hc) | hc) | hc) | hc) | hc) | hc <;> first
    | exact h1 hc
    | exact h2 hc
    | exact h3 hc
    | exact h4 hc
    | exact h5 hc
    | exact h6 hc
    | exact hw hc
    | exact dec_no hc
theorem contains_spec {w : World} {l : List UInt8} : Calls Tryz.prog 76 #[strV l, strV [35]] w (RetB w (.bool (l.contains 35))) :=
  (Tryz.strings_Contains_one ⟨l.toArray⟩ 35 w).mono fun e w' ⟨he, hw⟩ => ⟨by rw [he, Lib.contains_iff_indexByte], by rw [hw]; exact Below.refl _ _⟩
theorem AppendChecksum_spec {w : World} {l : List UInt8} (htab : Tab10 w) (hl : l.length ≤ 300) (hno : l.contains 35 = false) : Calls Tryz.prog 53 #[strV l] w (RetB w (.tuple #[strV (sealT l), .bool true])) := by
  have hsr := sumTo_range (l := l) (k := l.length)
  have hsl := dec_len (n := sumOf l) (by unfold sumOf; omega) (by unfold sumOf; omega)
  have hs0 : 0 ≤ sumOf l ∧ sumOf l < 999979 := hsr
  refine calls_of_run (vs := [_]) (L := [(0, _)]) (n := 22) (F := []) (H := []) Tryz.func53 rfl rfl rfl rfl (HOk.start _) ?_
  refine Run.seq ?_
  refine Run.quiet (by intro h; cases h) ?_
  refine QOps.st rfl rfl (Yv.assign rfl).yl ?_
  refine QOps.st rfl rfl (Yv.assign rfl).yl ?_
  refine QOps.nil ?_
  refine Run.seq ?_
  refine Run.seq ?_
  refine Run.quiet (by intro h; cases h) ?_
  refine QOps.st rfl rfl (Yv.move rfl).yl ?_
  refine QOps.st rfl rfl (Yv.strLen (a := l) str9 rfl).yl ?_
  refine QOps.st rfl rfl (Yv.gtr rfl rfl).yl ?_
  refine QOps.st rfl rfl (Yv.move rfl).yl ?_
  refine' QOps.or [_, _] _ (.tmp 10) rfl rfl rfl rfl rfl rfl (fun hg1 => ?_) ?_
  rotate_left
  · try replace hg1 := of_decide_eq_false hg1
    refine QOps.st rfl rfl (Yv.move rfl).yl ?_
    refine QOps.st rfl rfl (Yl.call callable76 (.cons rfl (.cons rfl (.nil))) (fun w' hw' => contains_spec)) ?_
    exact QOps.nil rfl
  refine QOps.nil ?_
  refine Run.cond rfl (fun hc1 => ?_) (fun hc1 => ?_)
  · exfalso
    rw [hno] at hc1
    simp at hc1
    omega
  · try replace hc1 := of_decide_eq_false hc1
    refine Run.skip ?_
    refine Run.seq ?_
    refine Run.quiet (by intro h; cases h) ?_
    refine QOps.st rfl rfl (Yv.move rfl).yl ?_
    refine QOps.st rfl rfl (Yv.strAdd (a := l) (b := [35]) rfl rfl (by simp only [List.length_append, List.length_cons, List.length_nil]; omega)).yl ?_
    refine QOps.st rfl rfl (Yv.move rfl).yl ?_
    refine QOps.st rfl rfl (Yl.call callable77 (.cons rfl (.nil)) (fun w' hw' => checksum_spec (by omega))) ?_
    refine QOps.st rfl rfl (Yl.call callable52 (.cons rfl (.nil)) (fun w' hw' => itoa_spec (tab_at htab hw') (by omega) (by omega))) ?_
    refine QOps.st rfl rfl (Yv.strAdd (a := (l ++ [35])) (b := (dec ((sumOf l)))) rfl rfl (by simp only [List.length_append, List.length_cons, List.length_nil]; omega)).yl ?_
    refine QOps.st rfl rfl (Yv.assign rfl).yl ?_
    refine QOps.nil ?_
    refine Run.seq ?_
    refine Run.seq ?_
    refine Run.quiet (by intro h; cases h) ?_
    refine QOps.st rfl rfl (Yv.move rfl).yl ?_
    refine QOps.st rfl rfl (Yv.strLen (a := ((l ++ [35]) ++ (dec ((sumOf l))))) str9 rfl).yl ?_
    refine QOps.st rfl rfl (Yv.gtr rfl rfl).yl ?_
    refine QOps.nil ?_
    refine Run.cond rfl (fun hc2 => ?_) (fun hc2 => ?_)
    · exfalso
      have h9 := of_decide_eq_true hc2
      simp only [List.length_append, List.length_cons, List.length_nil] at h9
      omega
    · try replace hc2 := of_decide_eq_false hc2
      refine Run.skip ?_
      refine Run.seq ?_
      refine Run.quiet (by intro h; cases h) ?_
      refine QOps.st rfl rfl (Yv.move rfl).yl ?_
      refine QOps.st rfl rfl (Yv.assign rfl).yl ?_
      refine QOps.st rfl rfl (Yv.assign rfl).yl ?_
      refine QOps.nil ?_
      refine Run.ret ?_
      refine retQ.of (.inr rfl) rfl (.tmp rfl (.tmp rfl .nil)) (fun w' hw' => ?_)
      refine ⟨?_, hw'.bel.below⟩
      exact rfl
theorem append_msg {w : World} {l : List UInt8} {r : Report} (he : l = msgT r) (htab : Tab10 w) (hok : oneR r = true) : Calls Tryz.prog 53 #[strV l] w (RetB w (.tuple #[strV (sealT (msgT r)), .bool true])) := by
  subst he
  exact AppendChecksum_spec htab (msg_len hok) (msg_no hok)
theorem l1Seal_spec {w : World} {l : List UInt8} (hl : l.length ≤ 300) : Calls Tryz.prog 56 #[strV l] w (RetB w (strV (sealT l))) := by
  have hsr := sumTo_range (l := l) (k := l.length)
  have hsl := dec_len (n := sumOf l) (by unfold sumOf; omega) (by unfold sumOf; omega)
  have hs0 : 0 ≤ sumOf l ∧ sumOf l < 999979 := hsr
  refine calls_of_run (vs := [_]) (L := [(0, _)]) (n := 9) (F := []) (H := []) Tryz.func56 rfl rfl rfl rfl (HOk.start _) ?_
  refine Run.seq ?_
  refine Run.quiet (by intro h; cases h) ?_
  refine QOps.st rfl rfl (Yv.assign rfl).yl ?_
  refine QOps.nil ?_
  refine Run.seq ?_
  refine Run.quiet (by intro h; cases h) ?_
  refine QOps.st rfl rfl (Yv.move rfl).yl ?_
  refine QOps.st rfl rfl (Yv.strAdd (a := l) (b := [35]) rfl rfl (by simp only [List.length_append, List.length_cons, List.length_nil]; omega)).yl ?_
  refine QOps.st rfl rfl (Yv.move rfl).yl ?_
  refine QOps.st rfl rfl (Yl.call callable78 (.cons rfl (.nil)) (fun w' hw' => l1Sum_spec (by omega))) ?_
  refine QOps.st rfl rfl (Yl.call callable57 (.cons rfl (.nil)) (fun w' hw' => l1Num_spec (by omega) (by omega))) ?_
  refine QOps.st rfl rfl (Yv.strAdd (a := (l ++ [35])) (b := (dec ((sumOf l)))) rfl rfl (by simp only [List.length_append, List.length_cons, List.length_nil]; omega)).yl ?_
  refine QOps.st rfl rfl (Yv.assign rfl).yl ?_
  refine QOps.nil ?_
  refine Run.ret ?_
  refine retQ.of (.inr rfl) rfl (.tmp rfl .nil) (fun w' hw' => ?_)
  refine ⟨?_, hw'.bel.below⟩
  exact rfl
theorem seal_msg {w : World} {l : List UInt8} {r : Report} (he : l = msgT r) (hok : oneR r = true) : Calls Tryz.prog 56 #[strV l] w (RetB w (strV (sealT (msgT r)))) := by
  subst he
  exact l1Seal_spec (msg_len hok)
theorem l20Words_spec {w : World} : Calls Tryz.prog 41 #[] w (RetRow w 9 1 4 (wordsL.flatMap strC) (fun v => v)) := by
  refine calls_of_run (vs := []) (L := []) (n := 2) (F := []) (H := []) Tryz.func41 rfl rfl rfl rfl (HOk.start _) ?_
  refine Run.seq ?_
  refine Run.quiet (by intro h; cases h) ?_
  refine QOps.st rfl rfl (Yv.assign rfl).yl ?_
  refine QOps.nil ?_
  refine Run.seq ?_
  refine Run.ops ?_
  refine SOps.one rfl (One.buildSliceG (pv := [(0, _), (1, _), (2, _), (3, _)]) (cs := [_, _, _, _]) (fun l => match l with | [a0_0, a1_0, a2_0, a3_0] => [a0_0, a1_0, a2_0, a3_0] | _ => []) rfl el50 (.cons rfl (.cons rfl (.cons rfl (.cons rfl (.nil))))) rfl rfl (by kernel_rfl) rfl rfl (fun b1 => ?_))
  refine SOps.st rfl rfl (Yv.assign rfl).yl ?_
  refine SOps.nil ?_
  refine Run.ret ?_
  refine retQ.of (.inr rfl) rfl (.tmp rfl .nil) (fun w' hw' => ?_)
  show RetRow _ _ _ _ _ _ _ _; exact ⟨_, _, rfl, hw'.bel.below, hw'.ent _ (List.mem_of_getElem? (i := 0) rfl), fun g hg => (hw'.own _ (List.mem_of_getElem? (i := 0) rfl) g hg).elim id (by simp)⟩
theorem messageOf_spec {w : World} {r : Report} (htab : Tab10 w) (hwords : Words w) (hok : oneR r = true) : Calls Tryz.prog 23 #[.agg r.enc.toArray] w (RetB w (strV (sealT (msgT r)))) := by
  obtain ⟨⟨ha1, ha2⟩, ⟨hb1, hb2⟩, ⟨hd1, hd2⟩, ⟨he1, he2⟩, ⟨hf1, hf2⟩, ⟨hg1, hg2⟩⟩ := one_bnd hok
  have l1 := dec_len ha1 ha2
  have l2 := dec_len hb1 hb2
  have l4 := dec_len he1 he2
  have l5 := dec_len hf1 hf2
  have l6 := dec_len hg1 hg2
  have l3 := word_len r.kind.toNat (by omega)
  refine calls_of_run (vs := [_]) (L := [(0, _)]) (n := 43) (F := []) (H := []) Tryz.func23 rfl rfl rfl rfl (HOk.start _) ?_
  refine Run.seq ?_
  refine Run.ops ?_
  refine SOps.one rfl (One.box (cs := [_, _, _, _, _, _]) rfl rfl rfl (fun b1 => ?_))
  refine SOps.st rfl rfl (Yv.assign rfl).yl ?_
  refine SOps.nil ?_
  refine Run.seq ?_
  refine Run.quiet (fun _ => ⟨by kernel_rfl, by kernel_rfl⟩) ?_
  refine QOps.st rfl rfl (Yv.fieldAddr fld25_0 rfl).yl ?_
  refine QOps.st rfl rfl (Yv.loadB (i := 0) lay3 rfl rfl rfl rfl).yl ?_
  refine QOps.st rfl rfl (Yl.call callable52 (.cons rfl (.nil)) (fun w' hw' => itoa_spec (tab_at htab hw') (by omega) (by omega))) ?_
  refine QOps.st rfl rfl (Yv.strAdd (a := [118, 101, 115, 115, 101, 108, 32]) (b := (dec (r.vessel))) rfl rfl (by simp only [List.length_append, List.length_cons, List.length_nil]; omega)).yl ?_
  refine QOps.st rfl rfl (Yv.strAdd (a := ([118, 101, 115, 115, 101, 108, 32] ++ (dec (r.vessel)))) (b := [32, 114, 101, 112, 111, 114, 116, 32]) rfl rfl (by simp only [List.length_append, List.length_cons, List.length_nil]; omega)).yl ?_
  refine QOps.st rfl rfl (Yv.fieldAddr fld25_1 rfl).yl ?_
  refine QOps.st rfl rfl (Yv.loadB (i := 0) lay3 rfl rfl rfl rfl).yl ?_
  refine QOps.st rfl rfl (Yl.call callable52 (.cons rfl (.nil)) (fun w' hw' => itoa_spec (tab_at htab hw') (by omega) (by omega))) ?_
  refine QOps.st rfl rfl (Yv.strAdd (a := (([118, 101, 115, 115, 101, 108, 32] ++ (dec (r.vessel))) ++ [32, 114, 101, 112, 111, 114, 116, 32])) (b := (dec (r.number))) rfl rfl (by simp only [List.length_append, List.length_cons, List.length_nil]; omega)).yl ?_
  refine QOps.st rfl rfl (Yv.strAdd (a := ((([118, 101, 115, 115, 101, 108, 32] ++ (dec (r.vessel))) ++ [32, 114, 101, 112, 111, 114, 116, 32]) ++ (dec (r.number)))) (b := [58, 32]) rfl rfl (by simp only [List.length_append, List.length_cons, List.length_nil]; omega)).yl ?_
  refine QOps.st rfl rfl (Yv.fieldAddr fld25_2 rfl).yl ?_
  refine QOps.st rfl rfl (Yv.loadB (i := 0) lay3 rfl rfl rfl rfl).yl ?_
  refine QOps.st rfl rfl (Yv.idxG (k := r.kind.toNat) Tryz.underlying55 lay9 Tryz.sizeOf9 rfl (by omega) (by omega)).yl ?_
  refine QOps.st rfl rfl (Yv.loadG lay9 rfl (fun w' hw' => cell_stays (hwords r.kind.toNat (by omega)) hw')).yl ?_
  refine QOps.st rfl rfl (Yv.strAdd (a := (((([118, 101, 115, 115, 101, 108, 32] ++ (dec (r.vessel))) ++ [32, 114, 101, 112, 111, 114, 116, 32]) ++ (dec (r.number))) ++ [58, 32])) (b := (nth wordsL r.kind.toNat)) rfl rfl (by simp only [List.length_append, List.length_cons, List.length_nil]; omega)).yl ?_
  refine QOps.st rfl rfl (Yv.assign rfl).yl ?_
  refine QOps.nil ?_
  refine Run.seq ?_
  refine Run.quiet (fun _ => ⟨by kernel_rfl, by kernel_rfl⟩) ?_
  refine QOps.st rfl rfl (Yv.move rfl).yl ?_
  refine QOps.st rfl rfl (Yv.fieldAddr fld25_3 rfl).yl ?_
  refine QOps.st rfl rfl (Yv.loadB (i := 0) lay3 rfl rfl rfl rfl).yl ?_
  refine QOps.st rfl rfl (Yl.call callable52 (.cons rfl (.nil)) (fun w' hw' => itoa_spec (tab_at htab hw') (by omega) (by omega))) ?_
  refine QOps.st rfl rfl (Yv.strAdd (a := [32, 97, 116, 32, 107, 109, 32]) (b := (dec (r.place))) rfl rfl (by simp only [List.length_append, List.length_cons, List.length_nil]; omega)).yl ?_
  refine QOps.st rfl rfl (Yv.strAdd (a := ([32, 97, 116, 32, 107, 109, 32] ++ (dec (r.place)))) (b := [32, 109, 105, 110, 117, 116, 101, 32]) rfl rfl (by simp only [List.length_append, List.length_cons, List.length_nil]; omega)).yl ?_
  refine QOps.st rfl rfl (Yv.fieldAddr fld25_4 rfl).yl ?_
  refine QOps.st rfl rfl (Yv.loadB (i := 0) lay3 rfl rfl rfl rfl).yl ?_
  refine QOps.st rfl rfl (Yl.call callable52 (.cons rfl (.nil)) (fun w' hw' => itoa_spec (tab_at htab hw') (by omega) (by omega))) ?_
  refine QOps.st rfl rfl (Yv.strAdd (a := (([32, 97, 116, 32, 107, 109, 32] ++ (dec (r.place))) ++ [32, 109, 105, 110, 117, 116, 101, 32])) (b := (dec (r.minute))) rfl rfl (by simp only [List.length_append, List.length_cons, List.length_nil]; omega)).yl ?_
  refine QOps.st rfl rfl (Yv.strAdd (a := ((([32, 97, 116, 32, 107, 109, 32] ++ (dec (r.place))) ++ [32, 109, 105, 110, 117, 116, 101, 32]) ++ (dec (r.minute)))) (b := [32, 99, 111, 110, 101, 115, 32]) rfl rfl (by simp only [List.length_append, List.length_cons, List.length_nil]; omega)).yl ?_
  refine QOps.st rfl rfl (Yv.fieldAddr fld25_5 rfl).yl ?_
  refine QOps.st rfl rfl (Yv.loadB (i := 0) lay3 rfl rfl rfl rfl).yl ?_
  refine QOps.st rfl rfl (Yl.call callable52 (.cons rfl (.nil)) (fun w' hw' => itoa_spec (tab_at htab hw') (by omega) (by omega))) ?_
  refine QOps.st rfl rfl (Yv.strAdd (a := (((([32, 97, 116, 32, 107, 109, 32] ++ (dec (r.place))) ++ [32, 109, 105, 110, 117, 116, 101, 32]) ++ (dec (r.minute))) ++ [32, 99, 111, 110, 101, 115, 32])) (b := (dec (r.cones))) rfl rfl (by simp only [List.length_append, List.length_cons, List.length_nil]; omega)).yl ?_
  refine QOps.st rfl rfl (Yv.strAdd (a := ((((([118, 101, 115, 115, 101, 108, 32] ++ (dec (r.vessel))) ++ [32, 114, 101, 112, 111, 114, 116, 32]) ++ (dec (r.number))) ++ [58, 32]) ++ (nth wordsL r.kind.toNat))) (b := ((((([32, 97, 116, 32, 107, 109, 32] ++ (dec (r.place))) ++ [32, 109, 105, 110, 117, 116, 101, 32]) ++ (dec (r.minute))) ++ [32, 99, 111, 110, 101, 115, 32]) ++ (dec (r.cones)))) rfl rfl (by simp only [List.length_append, List.length_cons, List.length_nil]; omega)).yl ?_
  refine QOps.st rfl rfl (Yv.assign rfl).yl ?_
  refine QOps.nil ?_
  refine Run.seq ?_
  refine Run.quiet (by intro h; cases h) ?_
  refine QOps.st rfl rfl (Yv.move rfl).yl ?_
  refine QOps.st rfl rfl (Yl.call callable53 (.cons rfl (.nil)) (fun w' hw' => append_msg (r := r) (by simp only [msgT, List.append_assoc, List.cons_append, List.nil_append]) (tab_at htab hw') hok)) ?_
  refine QOps.st rfl rfl (Yv.move rfl).yl ?_
  refine QOps.st rfl rfl (Yv.extract rfl rfl).yl ?_
  refine QOps.st rfl rfl (Yv.extract rfl rfl).yl ?_
  refine QOps.st rfl rfl (Yv.assign rfl).yl ?_
  refine QOps.st rfl rfl (Yv.assign rfl).yl ?_
  refine QOps.nil ?_
  refine Run.seq ?_
  refine Run.quiet (by intro h; cases h) ?_
  refine QOps.st rfl rfl (Yv.move rfl).yl ?_
  refine QOps.st rfl rfl (Yv.assign rfl).yl ?_
  refine QOps.nil ?_
  refine Run.ret ?_
  refine retQ.of (.inr rfl) rfl (.tmp rfl .nil) (fun w' hw' => ?_)
  refine ⟨?_, hw'.bel.below⟩
  exact rfl
theorem l20Text_spec {w : World} {r : Report} (hok : oneR r = true) : Calls Tryz.prog 25 #[.agg r.enc.toArray] w (RetB w (strV (sealT (msgT r)))) := by
  obtain ⟨⟨ha1, ha2⟩, ⟨hb1, hb2⟩, ⟨hd1, hd2⟩, ⟨he1, he2⟩, ⟨hf1, hf2⟩, ⟨hg1, hg2⟩⟩ := one_bnd hok
  have l1 := dec_len ha1 ha2
  have l2 := dec_len hb1 hb2
  have l4 := dec_len he1 he2
  have l5 := dec_len hf1 hf2
  have l6 := dec_len hg1 hg2
  have l3 := word_len r.kind.toNat (by omega)
  refine calls_of_run (vs := [_]) (L := [(0, _)]) (n := 35) (F := []) (H := []) Tryz.func25 rfl rfl rfl rfl (HOk.start _) ?_
  refine Run.seq ?_
  refine Run.ops ?_
  refine SOps.one rfl (One.box (cs := [_, _, _, _, _, _]) rfl rfl rfl (fun b1 => ?_))
  refine SOps.st rfl rfl (Yv.assign rfl).yl ?_
  refine SOps.nil ?_
  refine Run.seq ?_
  refine Run.draws (fun H => H) (m := 33) (listed := #[false, false, false, false, false, false, false, false, false, false, false, false, false, false, false, false, false, false, false, false, false, false, false, false, false, false, false, false, false, false, false, false, false]) (by kernel_rfl) rfl rfl ?_
  refine DOps.take (listed' := #[true, false, false, false, false, false, false, false, false, false, false, false, false, false, false, false, false, false, false, false, false, false, false, false, false, false, false, false, false, false, false, false, false]) 0 rfl (by kernel_rfl) rfl (List.Sublist.refl _) rfl rfl (Yv.fieldAddr fld25_0 rfl) ?_
  refine DOps.take (listed' := #[true, true, false, false, false, false, false, false, false, false, false, false, false, false, false, false, false, false, false, false, false, false, false, false, false, false, false, false, false, false, false, false, false]) 1 rfl (by kernel_rfl) rfl (List.Sublist.refl _) rfl rfl (Yv.loadB (i := 0) lay3 rfl rfl rfl rfl) ?_
  refine DOps.take (listed' := #[true, true, false, false, false, true, false, false, false, false, false, false, false, false, false, false, false, false, false, false, false, false, false, false, false, false, false, false, false, false, false, false, false]) 5 rfl (by kernel_rfl) rfl (List.Sublist.refl _) rfl rfl (Yv.fieldAddr fld25_1 rfl) ?_
  refine DOps.take (listed' := #[true, true, false, false, false, true, true, false, false, false, false, false, false, false, false, false, false, false, false, false, false, false, false, false, false, false, false, false, false, false, false, false, false]) 6 rfl (by kernel_rfl) rfl (List.Sublist.refl _) rfl rfl (Yv.loadB (i := 0) lay3 rfl rfl rfl rfl) ?_
  refine DOps.take (listed' := #[true, true, false, false, false, true, true, false, false, false, false, true, false, false, false, false, false, false, false, false, false, false, false, false, false, false, false, false, false, false, false, false, false]) 11 rfl (by kernel_rfl) rfl (List.Sublist.refl _) rfl rfl (Yv.fieldAddr fld25_2 rfl) ?_
  refine DOps.take (listed' := #[true, true, false, false, false, true, true, false, false, false, false, true, true, false, false, false, false, false, false, false, false, false, false, false, false, false, false, false, false, false, false, false, false]) 12 rfl (by kernel_rfl) rfl (List.Sublist.refl _) rfl rfl (Yv.loadB (i := 0) lay3 rfl rfl rfl rfl) ?_
  refine DOps.take (listed' := #[true, true, false, false, false, true, true, false, false, false, false, true, true, false, false, false, false, true, false, false, false, false, false, false, false, false, false, false, false, false, false, false, false]) 17 rfl (by kernel_rfl) rfl (List.Sublist.refl _) rfl rfl (Yv.fieldAddr fld25_3 rfl) ?_
  refine DOps.take (listed' := #[true, true, false, false, false, true, true, false, false, false, false, true, true, false, false, false, false, true, true, false, false, false, false, false, false, false, false, false, false, false, false, false, false]) 18 rfl (by kernel_rfl) rfl (List.Sublist.refl _) rfl rfl (Yv.loadB (i := 0) lay3 rfl rfl rfl rfl) ?_
  refine DOps.take (listed' := #[true, true, false, false, false, true, true, false, false, false, false, true, true, false, false, false, false, true, true, false, false, false, true, false, false, false, false, false, false, false, false, false, false]) 22 rfl (by kernel_rfl) rfl (List.Sublist.refl _) rfl rfl (Yv.fieldAddr fld25_4 rfl) ?_
  refine DOps.take (listed' := #[true, true, false, false, false, true, true, false, false, false, false, true, true, false, false, false, false, true, true, false, false, false, true, true, false, false, false, false, false, false, false, false, false]) 23 rfl (by kernel_rfl) rfl (List.Sublist.refl _) rfl rfl (Yv.loadB (i := 0) lay3 rfl rfl rfl rfl) ?_
  refine DOps.take (listed' := #[true, true, false, false, false, true, true, false, false, false, false, true, true, false, false, false, false, true, true, false, false, false, true, true, false, false, false, true, false, false, false, false, false]) 27 rfl (by kernel_rfl) rfl (List.Sublist.refl _) rfl rfl (Yv.fieldAddr fld25_5 rfl) ?_
  refine DOps.take (listed' := #[true, true, false, false, false, true, true, false, false, false, false, true, true, false, false, false, false, true, true, false, false, false, true, true, false, false, false, true, true, false, false, false, false]) 28 rfl (by kernel_rfl) rfl (List.Sublist.refl _) rfl rfl (Yv.loadB (i := 0) lay3 rfl rfl rfl rfl) ?_
  refine DOps.only (listed' := #[true, true, true, false, false, true, true, false, false, false, false, true, true, false, false, false, false, true, true, false, false, false, true, true, false, false, false, true, true, false, false, false, false]) 2 rfl (by kernel_rfl) rfl rfl ?_
  refine One.st rfl (Yl.call callable57 (.cons rfl (.nil)) (fun w' hw' => l1Num_spec (by omega) (by omega))) ?_
  refine ⟨(List.Sublist.refl _), ?_⟩
  refine DOps.take (listed' := #[true, true, true, true, false, true, true, false, false, false, false, true, true, false, false, false, false, true, true, false, false, false, true, true, false, false, false, true, true, false, false, false, false]) 3 rfl (by kernel_rfl) rfl (List.Sublist.refl _) rfl rfl (Yv.strAdd (a := [118, 101, 115, 115, 101, 108, 32]) (b := (dec (r.vessel))) rfl rfl (by simp only [List.length_append, List.length_cons, List.length_nil]; omega)) ?_
  refine DOps.take (listed' := #[true, true, true, true, true, true, true, false, false, false, false, true, true, false, false, false, false, true, true, false, false, false, true, true, false, false, false, true, true, false, false, false, false]) 4 rfl (by kernel_rfl) rfl (List.Sublist.refl _) rfl rfl (Yv.strAdd (a := ([118, 101, 115, 115, 101, 108, 32] ++ (dec (r.vessel)))) (b := [32, 114, 101, 112, 111, 114, 116, 32]) rfl rfl (by simp only [List.length_append, List.length_cons, List.length_nil]; omega)) ?_
  refine DOps.only (listed' := #[true, true, true, true, true, true, true, true, false, false, false, true, true, false, false, false, false, true, true, false, false, false, true, true, false, false, false, true, true, false, false, false, false]) 7 rfl (by kernel_rfl) rfl rfl ?_
  refine One.st rfl (Yl.call callable57 (.cons rfl (.nil)) (fun w' hw' => l1Num_spec (by omega) (by omega))) ?_
  refine ⟨(List.Sublist.refl _), ?_⟩
  refine DOps.take (listed' := #[true, true, true, true, true, true, true, true, true, false, false, true, true, false, false, false, false, true, true, false, false, false, true, true, false, false, false, true, true, false, false, false, false]) 8 rfl (by kernel_rfl) rfl (List.Sublist.refl _) rfl rfl (Yv.strAdd (a := (([118, 101, 115, 115, 101, 108, 32] ++ (dec (r.vessel))) ++ [32, 114, 101, 112, 111, 114, 116, 32])) (b := (dec (r.number))) rfl rfl (by simp only [List.length_append, List.length_cons, List.length_nil]; omega)) ?_
  refine DOps.take (listed' := #[true, true, true, true, true, true, true, true, true, true, false, true, true, false, false, false, false, true, true, false, false, false, true, true, false, false, false, true, true, false, false, false, false]) 9 rfl (by kernel_rfl) rfl (List.Sublist.refl _) rfl rfl (Yv.strAdd (a := ((([118, 101, 115, 115, 101, 108, 32] ++ (dec (r.vessel))) ++ [32, 114, 101, 112, 111, 114, 116, 32]) ++ (dec (r.number)))) (b := [58, 32]) rfl rfl (by simp only [List.length_append, List.length_cons, List.length_nil]; omega)) ?_
  refine DOps.only (listed' := #[true, true, true, true, true, true, true, true, true, true, true, true, true, false, false, false, false, true, true, false, false, false, true, true, false, false, false, true, true, false, false, false, false]) 10 rfl (by kernel_rfl) rfl rfl ?_
  refine One.callRow rfl callable41 .nil (fun w' hw' => l20Words_spec) (fun A1 c1 => ?_)
  refine ⟨(List.Sublist.cons _ (List.Sublist.refl _)), ?_⟩
  refine DOps.fork2 (l1 := #[true, true, true, true, true, true, true, true, true, true, true, true, true, true, false, false, false, true, true, false, false, false, true, true, false, false, false, true, true, false, false, false, false]) (l2 := #[true, true, true, true, true, true, true, true, true, true, true, true, true, false, false, false, false, true, true, true, false, false, true, true, false, false, false, true, true, false, false, false, false]) 13 19 rfl rfl (by kernel_rfl) rfl rfl rfl rfl ?_ ?_
  ·
    refine One.st rfl (Yv.indexAddr r.kind.toNat el50 rfl rfl (by omega) (Rd.row (i := 0) rfl) (by omega)).yl ?_
    refine ⟨(List.Sublist.cons _ (List.Sublist.refl _)), ?_⟩
    refine DOps.fork2 (l1 := #[true, true, true, true, true, true, true, true, true, true, true, true, true, true, true, false, false, true, true, false, false, false, true, true, false, false, false, true, true, false, false, false, false]) (l2 := #[true, true, true, true, true, true, true, true, true, true, true, true, true, true, false, false, false, true, true, true, false, false, true, true, false, false, false, true, true, false, false, false, false]) 14 19 rfl rfl (by kernel_rfl) rfl rfl rfl rfl ?_ ?_
    ·
      refine One.st rfl (Yv.loadE lay9 rfl strC_len (Rd.row (i := 0) rfl) (by show r.kind.toNat < 4; omega) rfl).yl ?_
      refine ⟨(List.Sublist.cons _ (List.Sublist.refl _)), ?_⟩
      refine DOps.take (listed' := #[true, true, true, true, true, true, true, true, true, true, true, true, true, true, true, true, false, true, true, false, false, false, true, true, false, false, false, true, true, false, false, false, false]) 15 rfl (by kernel_rfl) rfl (List.Sublist.cons _ (List.Sublist.refl _)) rfl rfl (Yv.strAdd (a := (((([118, 101, 115, 115, 101, 108, 32] ++ (dec (r.vessel))) ++ [32, 114, 101, 112, 111, 114, 116, 32]) ++ (dec (r.number))) ++ [58, 32])) (b := (nth wordsL (r.kind.toNat))) rfl rfl (by simp only [List.length_append, List.length_cons, List.length_nil]; omega)) ?_
      refine DOps.take (listed' := #[true, true, true, true, true, true, true, true, true, true, true, true, true, true, true, true, true, true, true, false, false, false, true, true, false, false, false, true, true, false, false, false, false]) 16 rfl (by kernel_rfl) rfl (List.Sublist.cons _ (List.Sublist.refl _)) rfl rfl (Yv.strAdd (a := ((((([118, 101, 115, 115, 101, 108, 32] ++ (dec (r.vessel))) ++ [32, 114, 101, 112, 111, 114, 116, 32]) ++ (dec (r.number))) ++ [58, 32]) ++ (nth wordsL (r.kind.toNat)))) (b := [32, 97, 116, 32, 107, 109, 32]) rfl rfl (by simp only [List.length_append, List.length_cons, List.length_nil]; omega)) ?_
      refine DOps.only (listed' := #[true, true, true, true, true, true, true, true, true, true, true, true, true, true, true, true, true, true, true, true, false, false, true, true, false, false, false, true, true, false, false, false, false]) 19 rfl (by kernel_rfl) rfl rfl ?_
      refine One.st rfl (Yl.call callable57 (.cons rfl (.nil)) (fun w' hw' => l1Num_spec (by omega) (by omega))) ?_
      refine ⟨(List.Sublist.cons _ (List.Sublist.refl _)), ?_⟩
      refine DOps.take (listed' := #[true, true, true, true, true, true, true, true, true, true, true, true, true, true, true, true, true, true, true, true, true, false, true, true, false, false, false, true, true, false, false, false, false]) 20 rfl (by kernel_rfl) rfl (List.Sublist.cons _ (List.Sublist.refl _)) rfl rfl (Yv.strAdd (a := (((((([118, 101, 115, 115, 101, 108, 32] ++ (dec (r.vessel))) ++ [32, 114, 101, 112, 111, 114, 116, 32]) ++ (dec (r.number))) ++ [58, 32]) ++ (nth wordsL (r.kind.toNat))) ++ [32, 97, 116, 32, 107, 109, 32])) (b := (dec (r.place))) rfl rfl (by simp only [List.length_append, List.length_cons, List.length_nil]; omega)) ?_
      refine DOps.take (listed' := #[true, true, true, true, true, true, true, true, true, true, true, true, true, true, true, true, true, true, true, true, true, true, true, true, false, false, false, true, true, false, false, false, false]) 21 rfl (by kernel_rfl) rfl (List.Sublist.cons _ (List.Sublist.refl _)) rfl rfl (Yv.strAdd (a := ((((((([118, 101, 115, 115, 101, 108, 32] ++ (dec (r.vessel))) ++ [32, 114, 101, 112, 111, 114, 116, 32]) ++ (dec (r.number))) ++ [58, 32]) ++ (nth wordsL (r.kind.toNat))) ++ [32, 97, 116, 32, 107, 109, 32]) ++ (dec (r.place)))) (b := [32, 109, 105, 110, 117, 116, 101, 32]) rfl rfl (by simp only [List.length_append, List.length_cons, List.length_nil]; omega)) ?_
      refine DOps.only (listed' := #[true, true, true, true, true, true, true, true, true, true, true, true, true, true, true, true, true, true, true, true, true, true, true, true, true, false, false, true, true, false, false, false, false]) 24 rfl (by kernel_rfl) rfl rfl ?_
      refine One.st rfl (Yl.call callable57 (.cons rfl (.nil)) (fun w' hw' => l1Num_spec (by omega) (by omega))) ?_
      refine ⟨(List.Sublist.cons _ (List.Sublist.refl _)), ?_⟩
      refine DOps.take (listed' := #[true, true, true, true, true, true, true, true, true, true, true, true, true, true, true, true, true, true, true, true, true, true, true, true, true, true, false, true, true, false, false, false, false]) 25 rfl (by kernel_rfl) rfl (List.Sublist.cons _ (List.Sublist.refl _)) rfl rfl (Yv.strAdd (a := (((((((([118, 101, 115, 115, 101, 108, 32] ++ (dec (r.vessel))) ++ [32, 114, 101, 112, 111, 114, 116, 32]) ++ (dec (r.number))) ++ [58, 32]) ++ (nth wordsL (r.kind.toNat))) ++ [32, 97, 116, 32, 107, 109, 32]) ++ (dec (r.place))) ++ [32, 109, 105, 110, 117, 116, 101, 32])) (b := (dec (r.minute))) rfl rfl (by simp only [List.length_append, List.length_cons, List.length_nil]; omega)) ?_
      refine DOps.take (listed' := #[true, true, true, true, true, true, true, true, true, true, true, true, true, true, true, true, true, true, true, true, true, true, true, true, true, true, true, true, true, false, false, false, false]) 26 rfl (by kernel_rfl) rfl (List.Sublist.cons _ (List.Sublist.refl _)) rfl rfl (Yv.strAdd (a := ((((((((([118, 101, 115, 115, 101, 108, 32] ++ (dec (r.vessel))) ++ [32, 114, 101, 112, 111, 114, 116, 32]) ++ (dec (r.number))) ++ [58, 32]) ++ (nth wordsL (r.kind.toNat))) ++ [32, 97, 116, 32, 107, 109, 32]) ++ (dec (r.place))) ++ [32, 109, 105, 110, 117, 116, 101, 32]) ++ (dec (r.minute)))) (b := [32, 99, 111, 110, 101, 115, 32]) rfl rfl (by simp only [List.length_append, List.length_cons, List.length_nil]; omega)) ?_
      refine DOps.only (listed' := #[true, true, true, true, true, true, true, true, true, true, true, true, true, true, true, true, true, true, true, true, true, true, true, true, true, true, true, true, true, true, false, false, false]) 29 rfl (by kernel_rfl) rfl rfl ?_
      refine One.st rfl (Yl.call callable57 (.cons rfl (.nil)) (fun w' hw' => l1Num_spec (by omega) (by omega))) ?_
      refine ⟨(List.Sublist.cons _ (List.Sublist.refl _)), ?_⟩
      refine DOps.take (listed' := #[true, true, true, true, true, true, true, true, true, true, true, true, true, true, true, true, true, true, true, true, true, true, true, true, true, true, true, true, true, true, true, false, false]) 30 rfl (by kernel_rfl) rfl (List.Sublist.cons _ (List.Sublist.refl _)) rfl rfl (Yv.strAdd (a := (((((((((([118, 101, 115, 115, 101, 108, 32] ++ (dec (r.vessel))) ++ [32, 114, 101, 112, 111, 114, 116, 32]) ++ (dec (r.number))) ++ [58, 32]) ++ (nth wordsL (r.kind.toNat))) ++ [32, 97, 116, 32, 107, 109, 32]) ++ (dec (r.place))) ++ [32, 109, 105, 110, 117, 116, 101, 32]) ++ (dec (r.minute))) ++ [32, 99, 111, 110, 101, 115, 32])) (b := (dec (r.cones))) rfl rfl (by simp only [List.length_append, List.length_cons, List.length_nil]; omega)) ?_
      refine DOps.only (listed' := #[true, true, true, true, true, true, true, true, true, true, true, true, true, true, true, true, true, true, true, true, true, true, true, true, true, true, true, true, true, true, true, true, false]) 31 rfl (by kernel_rfl) rfl rfl ?_
      refine One.st rfl (Yl.call callable56 (.cons rfl (.nil)) (fun w' hw' => seal_msg (r := r) (by simp only [msgT, List.append_assoc, List.cons_append, List.nil_append]) hok)) ?_
      refine ⟨(List.Sublist.cons _ (List.Sublist.refl _)), ?_⟩
      refine DOps.take (listed' := #[true, true, true, true, true, true, true, true, true, true, true, true, true, true, true, true, true, true, true, true, true, true, true, true, true, true, true, true, true, true, true, true, true]) 32 rfl (by kernel_rfl) rfl (List.Sublist.cons _ (List.Sublist.refl _)) rfl rfl (Yv.assign rfl) ?_
      refine DOps.done (by kernel_rfl) ?_
      refine Run.ret ?_
      refine retQ.of (.inr rfl) rfl (.tmp rfl .nil) (fun w' hw' => ?_)
      refine ⟨?_, hw'.bel.below⟩
      exact rfl
    ·
      refine One.st rfl (Yl.call callable57 (.cons rfl (.nil)) (fun w' hw' => l1Num_spec (by omega) (by omega))) ?_
      refine ⟨(List.Sublist.cons _ (List.Sublist.refl _)), ?_⟩
      refine DOps.fork2 (l1 := #[true, true, true, true, true, true, true, true, true, true, true, true, true, true, true, false, false, true, true, true, false, false, true, true, false, false, false, true, true, false, false, false, false]) (l2 := #[true, true, true, true, true, true, true, true, true, true, true, true, true, true, false, false, false, true, true, true, false, false, true, true, true, false, false, true, true, false, false, false, false]) 14 24 rfl rfl (by kernel_rfl) rfl rfl rfl rfl ?_ ?_
      ·
        refine One.st rfl (Yv.loadE lay9 rfl strC_len (Rd.row (i := 0) rfl) (by show r.kind.toNat < 4; omega) rfl).yl ?_
        refine ⟨(List.Sublist.cons _ (List.Sublist.refl _)), ?_⟩
        refine DOps.take (listed' := #[true, true, true, true, true, true, true, true, true, true, true, true, true, true, true, true, false, true, true, true, false, false, true, true, false, false, false, true, true, false, false, false, false]) 15 rfl (by kernel_rfl) rfl (List.Sublist.cons _ (List.Sublist.refl _)) rfl rfl (Yv.strAdd (a := (((([118, 101, 115, 115, 101, 108, 32] ++ (dec (r.vessel))) ++ [32, 114, 101, 112, 111, 114, 116, 32]) ++ (dec (r.number))) ++ [58, 32])) (b := (nth wordsL (r.kind.toNat))) rfl rfl (by simp only [List.length_append, List.length_cons, List.length_nil]; omega)) ?_
        refine DOps.take (listed' := #[true, true, true, true, true, true, true, true, true, true, true, true, true, true, true, true, true, true, true, true, false, false, true, true, false, false, false, true, true, false, false, false, false]) 16 rfl (by kernel_rfl) rfl (List.Sublist.cons _ (List.Sublist.refl _)) rfl rfl (Yv.strAdd (a := ((((([118, 101, 115, 115, 101, 108, 32] ++ (dec (r.vessel))) ++ [32, 114, 101, 112, 111, 114, 116, 32]) ++ (dec (r.number))) ++ [58, 32]) ++ (nth wordsL (r.kind.toNat)))) (b := [32, 97, 116, 32, 107, 109, 32]) rfl rfl (by simp only [List.length_append, List.length_cons, List.length_nil]; omega)) ?_
        refine DOps.take (listed' := #[true, true, true, true, true, true, true, true, true, true, true, true, true, true, true, true, true, true, true, true, true, false, true, true, false, false, false, true, true, false, false, false, false]) 20 rfl (by kernel_rfl) rfl (List.Sublist.cons _ (List.Sublist.refl _)) rfl rfl (Yv.strAdd (a := (((((([118, 101, 115, 115, 101, 108, 32] ++ (dec (r.vessel))) ++ [32, 114, 101, 112, 111, 114, 116, 32]) ++ (dec (r.number))) ++ [58, 32]) ++ (nth wordsL (r.kind.toNat))) ++ [32, 97, 116, 32, 107, 109, 32])) (b := (dec (r.place))) rfl rfl (by simp only [List.length_append, List.length_cons, List.length_nil]; omega)) ?_
        refine DOps.take (listed' := #[true, true, true, true, true, true, true, true, true, true, true, true, true, true, true, true, true, true, true, true, true, true, true, true, false, false, false, true, true, false, false, false, false]) 21 rfl (by kernel_rfl) rfl (List.Sublist.cons _ (List.Sublist.refl _)) rfl rfl (Yv.strAdd (a := ((((((([118, 101, 115, 115, 101, 108, 32] ++ (dec (r.vessel))) ++ [32, 114, 101, 112, 111, 114, 116, 32]) ++ (dec (r.number))) ++ [58, 32]) ++ (nth wordsL (r.kind.toNat))) ++ [32, 97, 116, 32, 107, 109, 32]) ++ (dec (r.place)))) (b := [32, 109, 105, 110, 117, 116, 101, 32]) rfl rfl (by simp only [List.length_append, List.length_cons, List.length_nil]; omega)) ?_
        refine DOps.only (listed' := #[true, true, true, true, true, true, true, true, true, true, true, true, true, true, true, true, true, true, true, true, true, true, true, true, true, false, false, true, true, false, false, false, false]) 24 rfl (by kernel_rfl) rfl rfl ?_
        refine One.st rfl (Yl.call callable57 (.cons rfl (.nil)) (fun w' hw' => l1Num_spec (by omega) (by omega))) ?_
        refine ⟨(List.Sublist.cons _ (List.Sublist.refl _)), ?_⟩
        refine DOps.take (listed' := #[true, true, true, true, true, true, true, true, true, true, true, true, true, true, true, true, true, true, true, true, true, true, true, true, true, true, false, true, true, false, false, false, false]) 25 rfl (by kernel_rfl) rfl (List.Sublist.cons _ (List.Sublist.refl _)) rfl rfl (Yv.strAdd (a := (((((((([118, 101, 115, 115, 101, 108, 32] ++ (dec (r.vessel))) ++ [32, 114, 101, 112, 111, 114, 116, 32]) ++ (dec (r.number))) ++ [58, 32]) ++ (nth wordsL (r.kind.toNat))) ++ [32, 97, 116, 32, 107, 109, 32]) ++ (dec (r.place))) ++ [32, 109, 105, 110, 117, 116, 101, 32])) (b := (dec (r.minute))) rfl rfl (by simp only [List.length_append, List.length_cons, List.length_nil]; omega)) ?_
        refine DOps.take (listed' := #[true, true, true, true, true, true, true, true, true, true, true, true, true, true, true, true, true, true, true, true, true, true, true, true, true, true, true, true, true, false, false, false, false]) 26 rfl (by kernel_rfl) rfl (List.Sublist.cons _ (List.Sublist.refl _)) rfl rfl (Yv.strAdd (a := ((((((((([118, 101, 115, 115, 101, 108, 32] ++ (dec (r.vessel))) ++ [32, 114, 101, 112, 111, 114, 116, 32]) ++ (dec (r.number))) ++ [58, 32]) ++ (nth wordsL (r.kind.toNat))) ++ [32, 97, 116, 32, 107, 109, 32]) ++ (dec (r.place))) ++ [32, 109, 105, 110, 117, 116, 101, 32]) ++ (dec (r.minute)))) (b := [32, 99, 111, 110, 101, 115, 32]) rfl rfl (by simp only [List.length_append, List.length_cons, List.length_nil]; omega)) ?_
        refine DOps.only (listed' := #[true, true, true, true, true, true, true, true, true, true, true, true, true, true, true, true, true, true, true, true, true, true, true, true, true, true, true, true, true, true, false, false, false]) 29 rfl (by kernel_rfl) rfl rfl ?_
        refine One.st rfl (Yl.call callable57 (.cons rfl (.nil)) (fun w' hw' => l1Num_spec (by omega) (by omega))) ?_
        refine ⟨(List.Sublist.cons _ (List.Sublist.refl _)), ?_⟩
        refine DOps.take (listed' := #[true, true, true, true, true, true, true, true, true, true, true, true, true, true, true, true, true, true, true, true, true, true, true, true, true, true, true, true, true, true, true, false, false]) 30 rfl (by kernel_rfl) rfl (List.Sublist.cons _ (List.Sublist.refl _)) rfl rfl (Yv.strAdd (a := (((((((((([118, 101, 115, 115, 101, 108, 32] ++ (dec (r.vessel))) ++ [32, 114, 101, 112, 111, 114, 116, 32]) ++ (dec (r.number))) ++ [58, 32]) ++ (nth wordsL (r.kind.toNat))) ++ [32, 97, 116, 32, 107, 109, 32]) ++ (dec (r.place))) ++ [32, 109, 105, 110, 117, 116, 101, 32]) ++ (dec (r.minute))) ++ [32, 99, 111, 110, 101, 115, 32])) (b := (dec (r.cones))) rfl rfl (by simp only [List.length_append, List.length_cons, List.length_nil]; omega)) ?_
        refine DOps.only (listed' := #[true, true, true, true, true, true, true, true, true, true, true, true, true, true, true, true, true, true, true, true, true, true, true, true, true, true, true, true, true, true, true, true, false]) 31 rfl (by kernel_rfl) rfl rfl ?_
        refine One.st rfl (Yl.call callable56 (.cons rfl (.nil)) (fun w' hw' => seal_msg (r := r) (by simp only [msgT, List.append_assoc, List.cons_append, List.nil_append]) hok)) ?_
        refine ⟨(List.Sublist.cons _ (List.Sublist.refl _)), ?_⟩
        refine DOps.take (listed' := #[true, true, true, true, true, true, true, true, true, true, true, true, true, true, true, true, true, true, true, true, true, true, true, true, true, true, true, true, true, true, true, true, true]) 32 rfl (by kernel_rfl) rfl (List.Sublist.cons _ (List.Sublist.refl _)) rfl rfl (Yv.assign rfl) ?_
        refine DOps.done (by kernel_rfl) ?_
        refine Run.ret ?_
        refine retQ.of (.inr rfl) rfl (.tmp rfl .nil) (fun w' hw' => ?_)
        refine ⟨?_, hw'.bel.below⟩
        exact rfl
      ·
        refine One.st rfl (Yl.call callable57 (.cons rfl (.nil)) (fun w' hw' => l1Num_spec (by omega) (by omega))) ?_
        refine ⟨(List.Sublist.cons _ (List.Sublist.refl _)), ?_⟩
        refine DOps.fork2 (l1 := #[true, true, true, true, true, true, true, true, true, true, true, true, true, true, true, false, false, true, true, true, false, false, true, true, true, false, false, true, true, false, false, false, false]) (l2 := #[true, true, true, true, true, true, true, true, true, true, true, true, true, true, false, false, false, true, true, true, false, false, true, true, true, false, false, true, true, true, false, false, false]) 14 29 rfl rfl (by kernel_rfl) rfl rfl rfl rfl ?_ ?_
        ·
          refine One.st rfl (Yv.loadE lay9 rfl strC_len (Rd.row (i := 0) rfl) (by show r.kind.toNat < 4; omega) rfl).yl ?_
          refine ⟨(List.Sublist.cons _ (List.Sublist.refl _)), ?_⟩
          refine DOps.take (listed' := #[true, true, true, true, true, true, true, true, true, true, true, true, true, true, true, true, false, true, true, true, false, false, true, true, true, false, false, true, true, false, false, false, false]) 15 rfl (by kernel_rfl) rfl (List.Sublist.cons _ (List.Sublist.refl _)) rfl rfl (Yv.strAdd (a := (((([118, 101, 115, 115, 101, 108, 32] ++ (dec (r.vessel))) ++ [32, 114, 101, 112, 111, 114, 116, 32]) ++ (dec (r.number))) ++ [58, 32])) (b := (nth wordsL (r.kind.toNat))) rfl rfl (by simp only [List.length_append, List.length_cons, List.length_nil]; omega)) ?_
          refine DOps.take (listed' := #[true, true, true, true, true, true, true, true, true, true, true, true, true, true, true, true, true, true, true, true, false, false, true, true, true, false, false, true, true, false, false, false, false]) 16 rfl (by kernel_rfl) rfl (List.Sublist.cons _ (List.Sublist.refl _)) rfl rfl (Yv.strAdd (a := ((((([118, 101, 115, 115, 101, 108, 32] ++ (dec (r.vessel))) ++ [32, 114, 101, 112, 111, 114, 116, 32]) ++ (dec (r.number))) ++ [58, 32]) ++ (nth wordsL (r.kind.toNat)))) (b := [32, 97, 116, 32, 107, 109, 32]) rfl rfl (by simp only [List.length_append, List.length_cons, List.length_nil]; omega)) ?_
          refine DOps.take (listed' := #[true, true, true, true, true, true, true, true, true, true, true, true, true, true, true, true, true, true, true, true, true, false, true, true, true, false, false, true, true, false, false, false, false]) 20 rfl (by kernel_rfl) rfl (List.Sublist.cons _ (List.Sublist.refl _)) rfl rfl (Yv.strAdd (a := (((((([118, 101, 115, 115, 101, 108, 32] ++ (dec (r.vessel))) ++ [32, 114, 101, 112, 111, 114, 116, 32]) ++ (dec (r.number))) ++ [58, 32]) ++ (nth wordsL (r.kind.toNat))) ++ [32, 97, 116, 32, 107, 109, 32])) (b := (dec (r.place))) rfl rfl (by simp only [List.length_append, List.length_cons, List.length_nil]; omega)) ?_
          refine DOps.take (listed' := #[true, true, true, true, true, true, true, true, true, true, true, true, true, true, true, true, true, true, true, true, true, true, true, true, true, false, false, true, true, false, false, false, false]) 21 rfl (by kernel_rfl) rfl (List.Sublist.cons _ (List.Sublist.refl _)) rfl rfl (Yv.strAdd (a := ((((((([118, 101, 115, 115, 101, 108, 32] ++ (dec (r.vessel))) ++ [32, 114, 101, 112, 111, 114, 116, 32]) ++ (dec (r.number))) ++ [58, 32]) ++ (nth wordsL (r.kind.toNat))) ++ [32, 97, 116, 32, 107, 109, 32]) ++ (dec (r.place)))) (b := [32, 109, 105, 110, 117, 116, 101, 32]) rfl rfl (by simp only [List.length_append, List.length_cons, List.length_nil]; omega)) ?_
          refine DOps.take (listed' := #[true, true, true, true, true, true, true, true, true, true, true, true, true, true, true, true, true, true, true, true, true, true, true, true, true, true, false, true, true, false, false, false, false]) 25 rfl (by kernel_rfl) rfl (List.Sublist.cons _ (List.Sublist.refl _)) rfl rfl (Yv.strAdd (a := (((((((([118, 101, 115, 115, 101, 108, 32] ++ (dec (r.vessel))) ++ [32, 114, 101, 112, 111, 114, 116, 32]) ++ (dec (r.number))) ++ [58, 32]) ++ (nth wordsL (r.kind.toNat))) ++ [32, 97, 116, 32, 107, 109, 32]) ++ (dec (r.place))) ++ [32, 109, 105, 110, 117, 116, 101, 32])) (b := (dec (r.minute))) rfl rfl (by simp only [List.length_append, List.length_cons, List.length_nil]; omega)) ?_
          refine DOps.take (listed' := #[true, true, true, true, true, true, true, true, true, true, true, true, true, true, true, true, true, true, true, true, true, true, true, true, true, true, true, true, true, false, false, false, false]) 26 rfl (by kernel_rfl) rfl (List.Sublist.cons _ (List.Sublist.refl _)) rfl rfl (Yv.strAdd (a := ((((((((([118, 101, 115, 115, 101, 108, 32] ++ (dec (r.vessel))) ++ [32, 114, 101, 112, 111, 114, 116, 32]) ++ (dec (r.number))) ++ [58, 32]) ++ (nth wordsL (r.kind.toNat))) ++ [32, 97, 116, 32, 107, 109, 32]) ++ (dec (r.place))) ++ [32, 109, 105, 110, 117, 116, 101, 32]) ++ (dec (r.minute)))) (b := [32, 99, 111, 110, 101, 115, 32]) rfl rfl (by simp only [List.length_append, List.length_cons, List.length_nil]; omega)) ?_
          refine DOps.only (listed' := #[true, true, true, true, true, true, true, true, true, true, true, true, true, true, true, true, true, true, true, true, true, true, true, true, true, true, true, true, true, true, false, false, false]) 29 rfl (by kernel_rfl) rfl rfl ?_
          refine One.st rfl (Yl.call callable57 (.cons rfl (.nil)) (fun w' hw' => l1Num_spec (by omega) (by omega))) ?_
          refine ⟨(List.Sublist.cons _ (List.Sublist.refl _)), ?_⟩
          refine DOps.take (listed' := #[true, true, true, true, true, true, true, true, true, true, true, true, true, true, true, true, true, true, true, true, true, true, true, true, true, true, true, true, true, true, true, false, false]) 30 rfl (by kernel_rfl) rfl (List.Sublist.cons _ (List.Sublist.refl _)) rfl rfl (Yv.strAdd (a := (((((((((([118, 101, 115, 115, 101, 108, 32] ++ (dec (r.vessel))) ++ [32, 114, 101, 112, 111, 114, 116, 32]) ++ (dec (r.number))) ++ [58, 32]) ++ (nth wordsL (r.kind.toNat))) ++ [32, 97, 116, 32, 107, 109, 32]) ++ (dec (r.place))) ++ [32, 109, 105, 110, 117, 116, 101, 32]) ++ (dec (r.minute))) ++ [32, 99, 111, 110, 101, 115, 32])) (b := (dec (r.cones))) rfl rfl (by simp only [List.length_append, List.length_cons, List.length_nil]; omega)) ?_
          refine DOps.only (listed' := #[true, true, true, true, true, true, true, true, true, true, true, true, true, true, true, true, true, true, true, true, true, true, true, true, true, true, true, true, true, true, true, true, false]) 31 rfl (by kernel_rfl) rfl rfl ?_
          refine One.st rfl (Yl.call callable56 (.cons rfl (.nil)) (fun w' hw' => seal_msg (r := r) (by simp only [msgT, List.append_assoc, List.cons_append, List.nil_append]) hok)) ?_
          refine ⟨(List.Sublist.cons _ (List.Sublist.refl _)), ?_⟩
          refine DOps.take (listed' := #[true, true, true, true, true, true, true, true, true, true, true, true, true, true, true, true, true, true, true, true, true, true, true, true, true, true, true, true, true, true, true, true, true]) 32 rfl (by kernel_rfl) rfl (List.Sublist.cons _ (List.Sublist.refl _)) rfl rfl (Yv.assign rfl) ?_
          refine DOps.done (by kernel_rfl) ?_
          refine Run.ret ?_
          refine retQ.of (.inr rfl) rfl (.tmp rfl .nil) (fun w' hw' => ?_)
          refine ⟨?_, hw'.bel.below⟩
          exact rfl
        ·
          refine One.st rfl (Yl.call callable57 (.cons rfl (.nil)) (fun w' hw' => l1Num_spec (by omega) (by omega))) ?_
          refine ⟨(List.Sublist.cons _ (List.Sublist.refl _)), ?_⟩
          refine DOps.only (listed' := #[true, true, true, true, true, true, true, true, true, true, true, true, true, true, true, false, false, true, true, true, false, false, true, true, true, false, false, true, true, true, false, false, false]) 14 rfl (by kernel_rfl) rfl rfl ?_
          refine One.st rfl (Yv.loadE lay9 rfl strC_len (Rd.row (i := 0) rfl) (by show r.kind.toNat < 4; omega) rfl).yl ?_
          refine ⟨(List.Sublist.cons _ (List.Sublist.refl _)), ?_⟩
          refine DOps.take (listed' := #[true, true, true, true, true, true, true, true, true, true, true, true, true, true, true, true, false, true, true, true, false, false, true, true, true, false, false, true, true, true, false, false, false]) 15 rfl (by kernel_rfl) rfl (List.Sublist.cons _ (List.Sublist.refl _)) rfl rfl (Yv.strAdd (a := (((([118, 101, 115, 115, 101, 108, 32] ++ (dec (r.vessel))) ++ [32, 114, 101, 112, 111, 114, 116, 32]) ++ (dec (r.number))) ++ [58, 32])) (b := (nth wordsL (r.kind.toNat))) rfl rfl (by simp only [List.length_append, List.length_cons, List.length_nil]; omega)) ?_
          refine DOps.take (listed' := #[true, true, true, true, true, true, true, true, true, true, true, true, true, true, true, true, true, true, true, true, false, false, true, true, true, false, false, true, true, true, false, false, false]) 16 rfl (by kernel_rfl) rfl (List.Sublist.cons _ (List.Sublist.refl _)) rfl rfl (Yv.strAdd (a := ((((([118, 101, 115, 115, 101, 108, 32] ++ (dec (r.vessel))) ++ [32, 114, 101, 112, 111, 114, 116, 32]) ++ (dec (r.number))) ++ [58, 32]) ++ (nth wordsL (r.kind.toNat)))) (b := [32, 97, 116, 32, 107, 109, 32]) rfl rfl (by simp only [List.length_append, List.length_cons, List.length_nil]; omega)) ?_
          refine DOps.take (listed' := #[true, true, true, true, true, true, true, true, true, true, true, true, true, true, true, true, true, true, true, true, true, false, true, true, true, false, false, true, true, true, false, false, false]) 20 rfl (by kernel_rfl) rfl (List.Sublist.cons _ (List.Sublist.refl _)) rfl rfl (Yv.strAdd (a := (((((([118, 101, 115, 115, 101, 108, 32] ++ (dec (r.vessel))) ++ [32, 114, 101, 112, 111, 114, 116, 32]) ++ (dec (r.number))) ++ [58, 32]) ++ (nth wordsL (r.kind.toNat))) ++ [32, 97, 116, 32, 107, 109, 32])) (b := (dec (r.place))) rfl rfl (by simp only [List.length_append, List.length_cons, List.length_nil]; omega)) ?_
          refine DOps.take (listed' := #[true, true, true, true, true, true, true, true, true, true, true, true, true, true, true, true, true, true, true, true, true, true, true, true, true, false, false, true, true, true, false, false, false]) 21 rfl (by kernel_rfl) rfl (List.Sublist.cons _ (List.Sublist.refl _)) rfl rfl (Yv.strAdd (a := ((((((([118, 101, 115, 115, 101, 108, 32] ++ (dec (r.vessel))) ++ [32, 114, 101, 112, 111, 114, 116, 32]) ++ (dec (r.number))) ++ [58, 32]) ++ (nth wordsL (r.kind.toNat))) ++ [32, 97, 116, 32, 107, 109, 32]) ++ (dec (r.place)))) (b := [32, 109, 105, 110, 117, 116, 101, 32]) rfl rfl (by simp only [List.length_append, List.length_cons, List.length_nil]; omega)) ?_
          refine DOps.take (listed' := #[true, true, true, true, true, true, true, true, true, true, true, true, true, true, true, true, true, true, true, true, true, true, true, true, true, true, false, true, true, true, false, false, false]) 25 rfl (by kernel_rfl) rfl (List.Sublist.cons _ (List.Sublist.refl _)) rfl rfl (Yv.strAdd (a := (((((((([118, 101, 115, 115, 101, 108, 32] ++ (dec (r.vessel))) ++ [32, 114, 101, 112, 111, 114, 116, 32]) ++ (dec (r.number))) ++ [58, 32]) ++ (nth wordsL (r.kind.toNat))) ++ [32, 97, 116, 32, 107, 109, 32]) ++ (dec (r.place))) ++ [32, 109, 105, 110, 117, 116, 101, 32])) (b := (dec (r.minute))) rfl rfl (by simp only [List.length_append, List.length_cons, List.length_nil]; omega)) ?_
          refine DOps.take (listed' := #[true, true, true, true, true, true, true, true, true, true, true, true, true, true, true, true, true, true, true, true, true, true, true, true, true, true, true, true, true, true, false, false, false]) 26 rfl (by kernel_rfl) rfl (List.Sublist.cons _ (List.Sublist.refl _)) rfl rfl (Yv.strAdd (a := ((((((((([118, 101, 115, 115, 101, 108, 32] ++ (dec (r.vessel))) ++ [32, 114, 101, 112, 111, 114, 116, 32]) ++ (dec (r.number))) ++ [58, 32]) ++ (nth wordsL (r.kind.toNat))) ++ [32, 97, 116, 32, 107, 109, 32]) ++ (dec (r.place))) ++ [32, 109, 105, 110, 117, 116, 101, 32]) ++ (dec (r.minute)))) (b := [32, 99, 111, 110, 101, 115, 32]) rfl rfl (by simp only [List.length_append, List.length_cons, List.length_nil]; omega)) ?_
          refine DOps.take (listed' := #[true, true, true, true, true, true, true, true, true, true, true, true, true, true, true, true, true, true, true, true, true, true, true, true, true, true, true, true, true, true, true, false, false]) 30 rfl (by kernel_rfl) rfl (List.Sublist.cons _ (List.Sublist.refl _)) rfl rfl (Yv.strAdd (a := (((((((((([118, 101, 115, 115, 101, 108, 32] ++ (dec (r.vessel))) ++ [32, 114, 101, 112, 111, 114, 116, 32]) ++ (dec (r.number))) ++ [58, 32]) ++ (nth wordsL (r.kind.toNat))) ++ [32, 97, 116, 32, 107, 109, 32]) ++ (dec (r.place))) ++ [32, 109, 105, 110, 117, 116, 101, 32]) ++ (dec (r.minute))) ++ [32, 99, 111, 110, 101, 115, 32])) (b := (dec (r.cones))) rfl rfl (by simp only [List.length_append, List.length_cons, List.length_nil]; omega)) ?_
          refine DOps.only (listed' := #[true, true, true, true, true, true, true, true, true, true, true, true, true, true, true, true, true, true, true, true, true, true, true, true, true, true, true, true, true, true, true, true, false]) 31 rfl (by kernel_rfl) rfl rfl ?_
          refine One.st rfl (Yl.call callable56 (.cons rfl (.nil)) (fun w' hw' => seal_msg (r := r) (by simp only [msgT, List.append_assoc, List.cons_append, List.nil_append]) hok)) ?_
          refine ⟨(List.Sublist.cons _ (List.Sublist.refl _)), ?_⟩
          refine DOps.take (listed' := #[true, true, true, true, true, true, true, true, true, true, true, true, true, true, true, true, true, true, true, true, true, true, true, true, true, true, true, true, true, true, true, true, true]) 32 rfl (by kernel_rfl) rfl (List.Sublist.cons _ (List.Sublist.refl _)) rfl rfl (Yv.assign rfl) ?_
          refine DOps.done (by kernel_rfl) ?_
          refine Run.ret ?_
          refine retQ.of (.inr rfl) rfl (.tmp rfl .nil) (fun w' hw' => ?_)
          refine ⟨?_, hw'.bel.below⟩
          exact rfl
  ·
    refine One.st rfl (Yl.call callable57 (.cons rfl (.nil)) (fun w' hw' => l1Num_spec (by omega) (by omega))) ?_
    refine ⟨(List.Sublist.cons _ (List.Sublist.refl _)), ?_⟩
    refine DOps.fork2 (l1 := #[true, true, true, true, true, true, true, true, true, true, true, true, true, true, false, false, false, true, true, true, false, false, true, true, false, false, false, true, true, false, false, false, false]) (l2 := #[true, true, true, true, true, true, true, true, true, true, true, true, true, false, false, false, false, true, true, true, false, false, true, true, true, false, false, true, true, false, false, false, false]) 13 24 rfl rfl (by kernel_rfl) rfl rfl rfl rfl ?_ ?_
    ·
      refine One.st rfl (Yv.indexAddr r.kind.toNat el50 rfl rfl (by omega) (Rd.row (i := 0) rfl) (by omega)).yl ?_
      refine ⟨(List.Sublist.cons _ (List.Sublist.refl _)), ?_⟩
      refine DOps.fork2 (l1 := #[true, true, true, true, true, true, true, true, true, true, true, true, true, true, true, false, false, true, true, true, false, false, true, true, false, false, false, true, true, false, false, false, false]) (l2 := #[true, true, true, true, true, true, true, true, true, true, true, true, true, true, false, false, false, true, true, true, false, false, true, true, true, false, false, true, true, false, false, false, false]) 14 24 rfl rfl (by kernel_rfl) rfl rfl rfl rfl ?_ ?_
      ·
        refine One.st rfl (Yv.loadE lay9 rfl strC_len (Rd.row (i := 0) rfl) (by show r.kind.toNat < 4; omega) rfl).yl ?_
        refine ⟨(List.Sublist.cons _ (List.Sublist.refl _)), ?_⟩
        refine DOps.take (listed' := #[true, true, true, true, true, true, true, true, true, true, true, true, true, true, true, true, false, true, true, true, false, false, true, true, false, false, false, true, true, false, false, false, false]) 15 rfl (by kernel_rfl) rfl (List.Sublist.cons _ (List.Sublist.refl _)) rfl rfl (Yv.strAdd (a := (((([118, 101, 115, 115, 101, 108, 32] ++ (dec (r.vessel))) ++ [32, 114, 101, 112, 111, 114, 116, 32]) ++ (dec (r.number))) ++ [58, 32])) (b := (nth wordsL (r.kind.toNat))) rfl rfl (by simp only [List.length_append, List.length_cons, List.length_nil]; omega)) ?_
        refine DOps.take (listed' := #[true, true, true, true, true, true, true, true, true, true, true, true, true, true, true, true, true, true, true, true, false, false, true, true, false, false, false, true, true, false, false, false, false]) 16 rfl (by kernel_rfl) rfl (List.Sublist.cons _ (List.Sublist.refl _)) rfl rfl (Yv.strAdd (a := ((((([118, 101, 115, 115, 101, 108, 32] ++ (dec (r.vessel))) ++ [32, 114, 101, 112, 111, 114, 116, 32]) ++ (dec (r.number))) ++ [58, 32]) ++ (nth wordsL (r.kind.toNat)))) (b := [32, 97, 116, 32, 107, 109, 32]) rfl rfl (by simp only [List.length_append, List.length_cons, List.length_nil]; omega)) ?_
        refine DOps.take (listed' := #[true, true, true, true, true, true, true, true, true, true, true, true, true, true, true, true, true, true, true, true, true, false, true, true, false, false, false, true, true, false, false, false, false]) 20 rfl (by kernel_rfl) rfl (List.Sublist.cons _ (List.Sublist.refl _)) rfl rfl (Yv.strAdd (a := (((((([118, 101, 115, 115, 101, 108, 32] ++ (dec (r.vessel))) ++ [32, 114, 101, 112, 111, 114, 116, 32]) ++ (dec (r.number))) ++ [58, 32]) ++ (nth wordsL (r.kind.toNat))) ++ [32, 97, 116, 32, 107, 109, 32])) (b := (dec (r.place))) rfl rfl (by simp only [List.length_append, List.length_cons, List.length_nil]; omega)) ?_
        refine DOps.take (listed' := #[true, true, true, true, true, true, true, true, true, true, true, true, true, true, true, true, true, true, true, true, true, true, true, true, false, false, false, true, true, false, false, false, false]) 21 rfl (by kernel_rfl) rfl (List.Sublist.cons _ (List.Sublist.refl _)) rfl rfl (Yv.strAdd (a := ((((((([118, 101, 115, 115, 101, 108, 32] ++ (dec (r.vessel))) ++ [32, 114, 101, 112, 111, 114, 116, 32]) ++ (dec (r.number))) ++ [58, 32]) ++ (nth wordsL (r.kind.toNat))) ++ [32, 97, 116, 32, 107, 109, 32]) ++ (dec (r.place)))) (b := [32, 109, 105, 110, 117, 116, 101, 32]) rfl rfl (by simp only [List.length_append, List.length_cons, List.length_nil]; omega)) ?_
        refine DOps.only (listed' := #[true, true, true, true, true, true, true, true, true, true, true, true, true, true, true, true, true, true, true, true, true, true, true, true, true, false, false, true, true, false, false, false, false]) 24 rfl (by kernel_rfl) rfl rfl ?_
        refine One.st rfl (Yl.call callable57 (.cons rfl (.nil)) (fun w' hw' => l1Num_spec (by omega) (by omega))) ?_
        refine ⟨(List.Sublist.cons _ (List.Sublist.refl _)), ?_⟩
        refine DOps.take (listed' := #[true, true, true, true, true, true, true, true, true, true, true, true, true, true, true, true, true, true, true, true, true, true, true, true, true, true, false, true, true, false, false, false, false]) 25 rfl (by kernel_rfl) rfl (List.Sublist.cons _ (List.Sublist.refl _)) rfl rfl (Yv.strAdd (a := (((((((([118, 101, 115, 115, 101, 108, 32] ++ (dec (r.vessel))) ++ [32, 114, 101, 112, 111, 114, 116, 32]) ++ (dec (r.number))) ++ [58, 32]) ++ (nth wordsL (r.kind.toNat))) ++ [32, 97, 116, 32, 107, 109, 32]) ++ (dec (r.place))) ++ [32, 109, 105, 110, 117, 116, 101, 32])) (b := (dec (r.minute))) rfl rfl (by simp only [List.length_append, List.length_cons, List.length_nil]; omega)) ?_
        refine DOps.take (listed' := #[true, true, true, true, true, true, true, true, true, true, true, true, true, true, true, true, true, true, true, true, true, true, true, true, true, true, true, true, true, false, false, false, false]) 26 rfl (by kernel_rfl) rfl (List.Sublist.cons _ (List.Sublist.refl _)) rfl rfl (Yv.strAdd (a := ((((((((([118, 101, 115, 115, 101, 108, 32] ++ (dec (r.vessel))) ++ [32, 114, 101, 112, 111, 114, 116, 32]) ++ (dec (r.number))) ++ [58, 32]) ++ (nth wordsL (r.kind.toNat))) ++ [32, 97, 116, 32, 107, 109, 32]) ++ (dec (r.place))) ++ [32, 109, 105, 110, 117, 116, 101, 32]) ++ (dec (r.minute)))) (b := [32, 99, 111, 110, 101, 115, 32]) rfl rfl (by simp only [List.length_append, List.length_cons, List.length_nil]; omega)) ?_
        refine DOps.only (listed' := #[true, true, true, true, true, true, true, true, true, true, true, true, true, true, true, true, true, true, true, true, true, true, true, true, true, true, true, true, true, true, false, false, false]) 29 rfl (by kernel_rfl) rfl rfl ?_
        refine One.st rfl (Yl.call callable57 (.cons rfl (.nil)) (fun w' hw' => l1Num_spec (by omega) (by omega))) ?_
        refine ⟨(List.Sublist.cons _ (List.Sublist.refl _)), ?_⟩
        refine DOps.take (listed' := #[true, true, true, true, true, true, true, true, true, true, true, true, true, true, true, true, true, true, true, true, true, true, true, true, true, true, true, true, true, true, true, false, false]) 30 rfl (by kernel_rfl) rfl (List.Sublist.cons _ (List.Sublist.refl _)) rfl rfl (Yv.strAdd (a := (((((((((([118, 101, 115, 115, 101, 108, 32] ++ (dec (r.vessel))) ++ [32, 114, 101, 112, 111, 114, 116, 32]) ++ (dec (r.number))) ++ [58, 32]) ++ (nth wordsL (r.kind.toNat))) ++ [32, 97, 116, 32, 107, 109, 32]) ++ (dec (r.place))) ++ [32, 109, 105, 110, 117, 116, 101, 32]) ++ (dec (r.minute))) ++ [32, 99, 111, 110, 101, 115, 32])) (b := (dec (r.cones))) rfl rfl (by simp only [List.length_append, List.length_cons, List.length_nil]; omega)) ?_
        refine DOps.only (listed' := #[true, true, true, true, true, true, true, true, true, true, true, true, true, true, true, true, true, true, true, true, true, true, true, true, true, true, true, true, true, true, true, true, false]) 31 rfl (by kernel_rfl) rfl rfl ?_
        refine One.st rfl (Yl.call callable56 (.cons rfl (.nil)) (fun w' hw' => seal_msg (r := r) (by simp only [msgT, List.append_assoc, List.cons_append, List.nil_append]) hok)) ?_
        refine ⟨(List.Sublist.cons _ (List.Sublist.refl _)), ?_⟩
        refine DOps.take (listed' := #[true, true, true, true, true, true, true, true, true, true, true, true, true, true, true, true, true, true, true, true, true, true, true, true, true, true, true, true, true, true, true, true, true]) 32 rfl (by kernel_rfl) rfl (List.Sublist.cons _ (List.Sublist.refl _)) rfl rfl (Yv.assign rfl) ?_
        refine DOps.done (by kernel_rfl) ?_
        refine Run.ret ?_
        refine retQ.of (.inr rfl) rfl (.tmp rfl .nil) (fun w' hw' => ?_)
        refine ⟨?_, hw'.bel.below⟩
        exact rfl
      ·
        refine One.st rfl (Yl.call callable57 (.cons rfl (.nil)) (fun w' hw' => l1Num_spec (by omega) (by omega))) ?_
        refine ⟨(List.Sublist.cons _ (List.Sublist.refl _)), ?_⟩
        refine DOps.fork2 (l1 := #[true, true, true, true, true, true, true, true, true, true, true, true, true, true, true, false, false, true, true, true, false, false, true, true, true, false, false, true, true, false, false, false, false]) (l2 := #[true, true, true, true, true, true, true, true, true, true, true, true, true, true, false, false, false, true, true, true, false, false, true, true, true, false, false, true, true, true, false, false, false]) 14 29 rfl rfl (by kernel_rfl) rfl rfl rfl rfl ?_ ?_
        ·
          refine One.st rfl (Yv.loadE lay9 rfl strC_len (Rd.row (i := 0) rfl) (by show r.kind.toNat < 4; omega) rfl).yl ?_
          refine ⟨(List.Sublist.cons _ (List.Sublist.refl _)), ?_⟩
          refine DOps.take (listed' := #[true, true, true, true, true, true, true, true, true, true, true, true, true, true, true, true, false, true, true, true, false, false, true, true, true, false, false, true, true, false, false, false, false]) 15 rfl (by kernel_rfl) rfl (List.Sublist.cons _ (List.Sublist.refl _)) rfl rfl (Yv.strAdd (a := (((([118, 101, 115, 115, 101, 108, 32] ++ (dec (r.vessel))) ++ [32, 114, 101, 112, 111, 114, 116, 32]) ++ (dec (r.number))) ++ [58, 32])) (b := (nth wordsL (r.kind.toNat))) rfl rfl (by simp only [List.length_append, List.length_cons, List.length_nil]; omega)) ?_
          refine DOps.take (listed' := #[true, true, true, true, true, true, true, true, true, true, true, true, true, true, true, true, true, true, true, true, false, false, true, true, true, false, false, true, true, false, false, false, false]) 16 rfl (by kernel_rfl) rfl (List.Sublist.cons _ (List.Sublist.refl _)) rfl rfl (Yv.strAdd (a := ((((([118, 101, 115, 115, 101, 108, 32] ++ (dec (r.vessel))) ++ [32, 114, 101, 112, 111, 114, 116, 32]) ++ (dec (r.number))) ++ [58, 32]) ++ (nth wordsL (r.kind.toNat)))) (b := [32, 97, 116, 32, 107, 109, 32]) rfl rfl (by simp only [List.length_append, List.length_cons, List.length_nil]; omega)) ?_
          refine DOps.take (listed' := #[true, true, true, true, true, true, true, true, true, true, true, true, true, true, true, true, true, true, true, true, true, false, true, true, true, false, false, true, true, false, false, false, false]) 20 rfl (by kernel_rfl) rfl (List.Sublist.cons _ (List.Sublist.refl _)) rfl rfl (Yv.strAdd (a := (((((([118, 101, 115, 115, 101, 108, 32] ++ (dec (r.vessel))) ++ [32, 114, 101, 112, 111, 114, 116, 32]) ++ (dec (r.number))) ++ [58, 32]) ++ (nth wordsL (r.kind.toNat))) ++ [32, 97, 116, 32, 107, 109, 32])) (b := (dec (r.place))) rfl rfl (by simp only [List.length_append, List.length_cons, List.length_nil]; omega)) ?_
          refine DOps.take (listed' := #[true, true, true, true, true, true, true, true, true, true, true, true, true, true, true, true, true, true, true, true, true, true, true, true, true, false, false, true, true, false, false, false, false]) 21 rfl (by kernel_rfl) rfl (List.Sublist.cons _ (List.Sublist.refl _)) rfl rfl (Yv.strAdd (a := ((((((([118, 101, 115, 115, 101, 108, 32] ++ (dec (r.vessel))) ++ [32, 114, 101, 112, 111, 114, 116, 32]) ++ (dec (r.number))) ++ [58, 32]) ++ (nth wordsL (r.kind.toNat))) ++ [32, 97, 116, 32, 107, 109, 32]) ++ (dec (r.place)))) (b := [32, 109, 105, 110, 117, 116, 101, 32]) rfl rfl (by simp only [List.length_append, List.length_cons, List.length_nil]; omega)) ?_
          refine DOps.take (listed' := #[true, true, true, true, true, true, true, true, true, true, true, true, true, true, true, true, true, true, true, true, true, true, true, true, true, true, false, true, true, false, false, false, false]) 25 rfl (by kernel_rfl) rfl (List.Sublist.cons _ (List.Sublist.refl _)) rfl rfl (Yv.strAdd (a := (((((((([118, 101, 115, 115, 101, 108, 32] ++ (dec (r.vessel))) ++ [32, 114, 101, 112, 111, 114, 116, 32]) ++ (dec (r.number))) ++ [58, 32]) ++ (nth wordsL (r.kind.toNat))) ++ [32, 97, 116, 32, 107, 109, 32]) ++ (dec (r.place))) ++ [32, 109, 105, 110, 117, 116, 101, 32])) (b := (dec (r.minute))) rfl rfl (by simp only [List.length_append, List.length_cons, List.length_nil]; omega)) ?_
          refine DOps.take (listed' := #[true, true, true, true, true, true, true, true, true, true, true, true, true, true, true, true, true, true, true, true, true, true, true, true, true, true, true, true, true, false, false, false, false]) 26 rfl (by kernel_rfl) rfl (List.Sublist.cons _ (List.Sublist.refl _)) rfl rfl (Yv.strAdd (a := ((((((((([118, 101, 115, 115, 101, 108, 32] ++ (dec (r.vessel))) ++ [32, 114, 101, 112, 111, 114, 116, 32]) ++ (dec (r.number))) ++ [58, 32]) ++ (nth wordsL (r.kind.toNat))) ++ [32, 97, 116, 32, 107, 109, 32]) ++ (dec (r.place))) ++ [32, 109, 105, 110, 117, 116, 101, 32]) ++ (dec (r.minute)))) (b := [32, 99, 111, 110, 101, 115, 32]) rfl rfl (by simp only [List.length_append, List.length_cons, List.length_nil]; omega)) ?_
          refine DOps.only (listed' := #[true, true, true, true, true, true, true, true, true, true, true, true, true, true, true, true, true, true, true, true, true, true, true, true, true, true, true, true, true, true, false, false, false]) 29 rfl (by kernel_rfl) rfl rfl ?_
          refine One.st rfl (Yl.call callable57 (.cons rfl (.nil)) (fun w' hw' => l1Num_spec (by omega) (by omega))) ?_
          refine ⟨(List.Sublist.cons _ (List.Sublist.refl _)), ?_⟩
          refine DOps.take (listed' := #[true, true, true, true, true, true, true, true, true, true, true, true, true, true, true, true, true, true, true, true, true, true, true, true, true, true, true, true, true, true, true, false, false]) 30 rfl (by kernel_rfl) rfl (List.Sublist.cons _ (List.Sublist.refl _)) rfl rfl (Yv.strAdd (a := (((((((((([118, 101, 115, 115, 101, 108, 32] ++ (dec (r.vessel))) ++ [32, 114, 101, 112, 111, 114, 116, 32]) ++ (dec (r.number))) ++ [58, 32]) ++ (nth wordsL (r.kind.toNat))) ++ [32, 97, 116, 32, 107, 109, 32]) ++ (dec (r.place))) ++ [32, 109, 105, 110, 117, 116, 101, 32]) ++ (dec (r.minute))) ++ [32, 99, 111, 110, 101, 115, 32])) (b := (dec (r.cones))) rfl rfl (by simp only [List.length_append, List.length_cons, List.length_nil]; omega)) ?_
          refine DOps.only (listed' := #[true, true, true, true, true, true, true, true, true, true, true, true, true, true, true, true, true, true, true, true, true, true, true, true, true, true, true, true, true, true, true, true, false]) 31 rfl (by kernel_rfl) rfl rfl ?_
          refine One.st rfl (Yl.call callable56 (.cons rfl (.nil)) (fun w' hw' => seal_msg (r := r) (by simp only [msgT, List.append_assoc, List.cons_append, List.nil_append]) hok)) ?_
          refine ⟨(List.Sublist.cons _ (List.Sublist.refl _)), ?_⟩
          refine DOps.take (listed' := #[true, true, true, true, true, true, true, true, true, true, true, true, true, true, true, true, true, true, true, true, true, true, true, true, true, true, true, true, true, true, true, true, true]) 32 rfl (by kernel_rfl) rfl (List.Sublist.cons _ (List.Sublist.refl _)) rfl rfl (Yv.assign rfl) ?_
          refine DOps.done (by kernel_rfl) ?_
          refine Run.ret ?_
          refine retQ.of (.inr rfl) rfl (.tmp rfl .nil) (fun w' hw' => ?_)
          refine ⟨?_, hw'.bel.below⟩
          exact rfl
        ·
          refine One.st rfl (Yl.call callable57 (.cons rfl (.nil)) (fun w' hw' => l1Num_spec (by omega) (by omega))) ?_
          refine ⟨(List.Sublist.cons _ (List.Sublist.refl _)), ?_⟩
          refine DOps.only (listed' := #[true, true, true, true, true, true, true, true, true, true, true, true, true, true, true, false, false, true, true, true, false, false, true, true, true, false, false, true, true, true, false, false, false]) 14 rfl (by kernel_rfl) rfl rfl ?_
          refine One.st rfl (Yv.loadE lay9 rfl strC_len (Rd.row (i := 0) rfl) (by show r.kind.toNat < 4; omega) rfl).yl ?_
          refine ⟨(List.Sublist.cons _ (List.Sublist.refl _)), ?_⟩
          refine DOps.take (listed' := #[true, true, true, true, true, true, true, true, true, true, true, true, true, true, true, true, false, true, true, true, false, false, true, true, true, false, false, true, true, true, false, false, false]) 15 rfl (by kernel_rfl) rfl (List.Sublist.cons _ (List.Sublist.refl _)) rfl rfl (Yv.strAdd (a := (((([118, 101, 115, 115, 101, 108, 32] ++ (dec (r.vessel))) ++ [32, 114, 101, 112, 111, 114, 116, 32]) ++ (dec (r.number))) ++ [58, 32])) (b := (nth wordsL (r.kind.toNat))) rfl rfl (by simp only [List.length_append, List.length_cons, List.length_nil]; omega)) ?_
          refine DOps.take (listed' := #[true, true, true, true, true, true, true, true, true, true, true, true, true, true, true, true, true, true, true, true, false, false, true, true, true, false, false, true, true, true, false, false, false]) 16 rfl (by kernel_rfl) rfl (List.Sublist.cons _ (List.Sublist.refl _)) rfl rfl (Yv.strAdd (a := ((((([118, 101, 115, 115, 101, 108, 32] ++ (dec (r.vessel))) ++ [32, 114, 101, 112, 111, 114, 116, 32]) ++ (dec (r.number))) ++ [58, 32]) ++ (nth wordsL (r.kind.toNat)))) (b := [32, 97, 116, 32, 107, 109, 32]) rfl rfl (by simp only [List.length_append, List.length_cons, List.length_nil]; omega)) ?_
          refine DOps.take (listed' := #[true, true, true, true, true, true, true, true, true, true, true, true, true, true, true, true, true, true, true, true, true, false, true, true, true, false, false, true, true, true, false, false, false]) 20 rfl (by kernel_rfl) rfl (List.Sublist.cons _ (List.Sublist.refl _)) rfl rfl (Yv.strAdd (a := (((((([118, 101, 115, 115, 101, 108, 32] ++ (dec (r.vessel))) ++ [32, 114, 101, 112, 111, 114, 116, 32]) ++ (dec (r.number))) ++ [58, 32]) ++ (nth wordsL (r.kind.toNat))) ++ [32, 97, 116, 32, 107, 109, 32])) (b := (dec (r.place))) rfl rfl (by simp only [List.length_append, List.length_cons, List.length_nil]; omega)) ?_
          refine DOps.take (listed' := #[true, true, true, true, true, true, true, true, true, true, true, true, true, true, true, true, true, true, true, true, true, true, true, true, true, false, false, true, true, true, false, false, false]) 21 rfl (by kernel_rfl) rfl (List.Sublist.cons _ (List.Sublist.refl _)) rfl rfl (Yv.strAdd (a := ((((((([118, 101, 115, 115, 101, 108, 32] ++ (dec (r.vessel))) ++ [32, 114, 101, 112, 111, 114, 116, 32]) ++ (dec (r.number))) ++ [58, 32]) ++ (nth wordsL (r.kind.toNat))) ++ [32, 97, 116, 32, 107, 109, 32]) ++ (dec (r.place)))) (b := [32, 109, 105, 110, 117, 116, 101, 32]) rfl rfl (by simp only [List.length_append, List.length_cons, List.length_nil]; omega)) ?_
          refine DOps.take (listed' := #[true, true, true, true, true, true, true, true, true, true, true, true, true, true, true, true, true, true, true, true, true, true, true, true, true, true, false, true, true, true, false, false, false]) 25 rfl (by kernel_rfl) rfl (List.Sublist.cons _ (List.Sublist.refl _)) rfl rfl (Yv.strAdd (a := (((((((([118, 101, 115, 115, 101, 108, 32] ++ (dec (r.vessel))) ++ [32, 114, 101, 112, 111, 114, 116, 32]) ++ (dec (r.number))) ++ [58, 32]) ++ (nth wordsL (r.kind.toNat))) ++ [32, 97, 116, 32, 107, 109, 32]) ++ (dec (r.place))) ++ [32, 109, 105, 110, 117, 116, 101, 32])) (b := (dec (r.minute))) rfl rfl (by simp only [List.length_append, List.length_cons, List.length_nil]; omega)) ?_
          refine DOps.take (listed' := #[true, true, true, true, true, true, true, true, true, true, true, true, true, true, true, true, true, true, true, true, true, true, true, true, true, true, true, true, true, true, false, false, false]) 26 rfl (by kernel_rfl) rfl (List.Sublist.cons _ (List.Sublist.refl _)) rfl rfl (Yv.strAdd (a := ((((((((([118, 101, 115, 115, 101, 108, 32] ++ (dec (r.vessel))) ++ [32, 114, 101, 112, 111, 114, 116, 32]) ++ (dec (r.number))) ++ [58, 32]) ++ (nth wordsL (r.kind.toNat))) ++ [32, 97, 116, 32, 107, 109, 32]) ++ (dec (r.place))) ++ [32, 109, 105, 110, 117, 116, 101, 32]) ++ (dec (r.minute)))) (b := [32, 99, 111, 110, 101, 115, 32]) rfl rfl (by simp only [List.length_append, List.length_cons, List.length_nil]; omega)) ?_
          refine DOps.take (listed' := #[true, true, true, true, true, true, true, true, true, true, true, true, true, true, true, true, true, true, true, true, true, true, true, true, true, true, true, true, true, true, true, false, false]) 30 rfl (by kernel_rfl) rfl (List.Sublist.cons _ (List.Sublist.refl _)) rfl rfl (Yv.strAdd (a := (((((((((([118, 101, 115, 115, 101, 108, 32] ++ (dec (r.vessel))) ++ [32, 114, 101, 112, 111, 114, 116, 32]) ++ (dec (r.number))) ++ [58, 32]) ++ (nth wordsL (r.kind.toNat))) ++ [32, 97, 116, 32, 107, 109, 32]) ++ (dec (r.place))) ++ [32, 109, 105, 110, 117, 116, 101, 32]) ++ (dec (r.minute))) ++ [32, 99, 111, 110, 101, 115, 32])) (b := (dec (r.cones))) rfl rfl (by simp only [List.length_append, List.length_cons, List.length_nil]; omega)) ?_
          refine DOps.only (listed' := #[true, true, true, true, true, true, true, true, true, true, true, true, true, true, true, true, true, true, true, true, true, true, true, true, true, true, true, true, true, true, true, true, false]) 31 rfl (by kernel_rfl) rfl rfl ?_
          refine One.st rfl (Yl.call callable56 (.cons rfl (.nil)) (fun w' hw' => seal_msg (r := r) (by simp only [msgT, List.append_assoc, List.cons_append, List.nil_append]) hok)) ?_
          refine ⟨(List.Sublist.cons _ (List.Sublist.refl _)), ?_⟩
          refine DOps.take (listed' := #[true, true, true, true, true, true, true, true, true, true, true, true, true, true, true, true, true, true, true, true, true, true, true, true, true, true, true, true, true, true, true, true, true]) 32 rfl (by kernel_rfl) rfl (List.Sublist.cons _ (List.Sublist.refl _)) rfl rfl (Yv.assign rfl) ?_
          refine DOps.done (by kernel_rfl) ?_
          refine Run.ret ?_
          refine retQ.of (.inr rfl) rfl (.tmp rfl .nil) (fun w' hw' => ?_)
          refine ⟨?_, hw'.bel.below⟩
          exact rfl
    ·
      refine One.st rfl (Yl.call callable57 (.cons rfl (.nil)) (fun w' hw' => l1Num_spec (by omega) (by omega))) ?_
      refine ⟨(List.Sublist.cons _ (List.Sublist.refl _)), ?_⟩
      refine DOps.fork2 (l1 := #[true, true, true, true, true, true, true, true, true, true, true, true, true, true, false, false, false, true, true, true, false, false, true, true, true, false, false, true, true, false, false, false, false]) (l2 := #[true, true, true, true, true, true, true, true, true, true, true, true, true, false, false, false, false, true, true, true, false, false, true, true, true, false, false, true, true, true, false, false, false]) 13 29 rfl rfl (by kernel_rfl) rfl rfl rfl rfl ?_ ?_
      ·
        refine One.st rfl (Yv.indexAddr r.kind.toNat el50 rfl rfl (by omega) (Rd.row (i := 0) rfl) (by omega)).yl ?_
        refine ⟨(List.Sublist.cons _ (List.Sublist.refl _)), ?_⟩
        refine DOps.fork2 (l1 := #[true, true, true, true, true, true, true, true, true, true, true, true, true, true, true, false, false, true, true, true, false, false, true, true, true, false, false, true, true, false, false, false, false]) (l2 := #[true, true, true, true, true, true, true, true, true, true, true, true, true, true, false, false, false, true, true, true, false, false, true, true, true, false, false, true, true, true, false, false, false]) 14 29 rfl rfl (by kernel_rfl) rfl rfl rfl rfl ?_ ?_
        ·
          refine One.st rfl (Yv.loadE lay9 rfl strC_len (Rd.row (i := 0) rfl) (by show r.kind.toNat < 4; omega) rfl).yl ?_
          refine ⟨(List.Sublist.cons _ (List.Sublist.refl _)), ?_⟩
          refine DOps.take (listed' := #[true, true, true, true, true, true, true, true, true, true, true, true, true, true, true, true, false, true, true, true, false, false, true, true, true, false, false, true, true, false, false, false, false]) 15 rfl (by kernel_rfl) rfl (List.Sublist.cons _ (List.Sublist.refl _)) rfl rfl (Yv.strAdd (a := (((([118, 101, 115, 115, 101, 108, 32] ++ (dec (r.vessel))) ++ [32, 114, 101, 112, 111, 114, 116, 32]) ++ (dec (r.number))) ++ [58, 32])) (b := (nth wordsL (r.kind.toNat))) rfl rfl (by simp only [List.length_append, List.length_cons, List.length_nil]; omega)) ?_
          refine DOps.take (listed' := #[true, true, true, true, true, true, true, true, true, true, true, true, true, true, true, true, true, true, true, true, false, false, true, true, true, false, false, true, true, false, false, false, false]) 16 rfl (by kernel_rfl) rfl (List.Sublist.cons _ (List.Sublist.refl _)) rfl rfl (Yv.strAdd (a := ((((([118, 101, 115, 115, 101, 108, 32] ++ (dec (r.vessel))) ++ [32, 114, 101, 112, 111, 114, 116, 32]) ++ (dec (r.number))) ++ [58, 32]) ++ (nth wordsL (r.kind.toNat)))) (b := [32, 97, 116, 32, 107, 109, 32]) rfl rfl (by simp only [List.length_append, List.length_cons, List.length_nil]; omega)) ?_
          refine DOps.take (listed' := #[true, true, true, true, true, true, true, true, true, true, true, true, true, true, true, true, true, true, true, true, true, false, true, true, true, false, false, true, true, false, false, false, false]) 20 rfl (by kernel_rfl) rfl (List.Sublist.cons _ (List.Sublist.refl _)) rfl rfl (Yv.strAdd (a := (((((([118, 101, 115, 115, 101, 108, 32] ++ (dec (r.vessel))) ++ [32, 114, 101, 112, 111, 114, 116, 32]) ++ (dec (r.number))) ++ [58, 32]) ++ (nth wordsL (r.kind.toNat))) ++ [32, 97, 116, 32, 107, 109, 32])) (b := (dec (r.place))) rfl rfl (by simp only [List.length_append, List.length_cons, List.length_nil]; omega)) ?_
          refine DOps.take (listed' := #[true, true, true, true, true, true, true, true, true, true, true, true, true, true, true, true, true, true, true, true, true, true, true, true, true, false, false, true, true, false, false, false, false]) 21 rfl (by kernel_rfl) rfl (List.Sublist.cons _ (List.Sublist.refl _)) rfl rfl (Yv.strAdd (a := ((((((([118, 101, 115, 115, 101, 108, 32] ++ (dec (r.vessel))) ++ [32, 114, 101, 112, 111, 114, 116, 32]) ++ (dec (r.number))) ++ [58, 32]) ++ (nth wordsL (r.kind.toNat))) ++ [32, 97, 116, 32, 107, 109, 32]) ++ (dec (r.place)))) (b := [32, 109, 105, 110, 117, 116, 101, 32]) rfl rfl (by simp only [List.length_append, List.length_cons, List.length_nil]; omega)) ?_
          refine DOps.take (listed' := #[true, true, true, true, true, true, true, true, true, true, true, true, true, true, true, true, true, true, true, true, true, true, true, true, true, true, false, true, true, false, false, false, false]) 25 rfl (by kernel_rfl) rfl (List.Sublist.cons _ (List.Sublist.refl _)) rfl rfl (Yv.strAdd (a := (((((((([118, 101, 115, 115, 101, 108, 32] ++ (dec (r.vessel))) ++ [32, 114, 101, 112, 111, 114, 116, 32]) ++ (dec (r.number))) ++ [58, 32]) ++ (nth wordsL (r.kind.toNat))) ++ [32, 97, 116, 32, 107, 109, 32]) ++ (dec (r.place))) ++ [32, 109, 105, 110, 117, 116, 101, 32])) (b := (dec (r.minute))) rfl rfl (by simp only [List.length_append, List.length_cons, List.length_nil]; omega)) ?_
          refine DOps.take (listed' := #[true, true, true, true, true, true, true, true, true, true, true, true, true, true, true, true, true, true, true, true, true, true, true, true, true, true, true, true, true, false, false, false, false]) 26 rfl (by kernel_rfl) rfl (List.Sublist.cons _ (List.Sublist.refl _)) rfl rfl (Yv.strAdd (a := ((((((((([118, 101, 115, 115, 101, 108, 32] ++ (dec (r.vessel))) ++ [32, 114, 101, 112, 111, 114, 116, 32]) ++ (dec (r.number))) ++ [58, 32]) ++ (nth wordsL (r.kind.toNat))) ++ [32, 97, 116, 32, 107, 109, 32]) ++ (dec (r.place))) ++ [32, 109, 105, 110, 117, 116, 101, 32]) ++ (dec (r.minute)))) (b := [32, 99, 111, 110, 101, 115, 32]) rfl rfl (by simp only [List.length_append, List.length_cons, List.length_nil]; omega)) ?_
          refine DOps.only (listed' := #[true, true, true, true, true, true, true, true, true, true, true, true, true, true, true, true, true, true, true, true, true, true, true, true, true, true, true, true, true, true, false, false, false]) 29 rfl (by kernel_rfl) rfl rfl ?_
          refine One.st rfl (Yl.call callable57 (.cons rfl (.nil)) (fun w' hw' => l1Num_spec (by omega) (by omega))) ?_
          refine ⟨(List.Sublist.cons _ (List.Sublist.refl _)), ?_⟩
          refine DOps.take (listed' := #[true, true, true, true, true, true, true, true, true, true, true, true, true, true, true, true, true, true, true, true, true, true, true, true, true, true, true, true, true, true, true, false, false]) 30 rfl (by kernel_rfl) rfl (List.Sublist.cons _ (List.Sublist.refl _)) rfl rfl (Yv.strAdd (a := (((((((((([118, 101, 115, 115, 101, 108, 32] ++ (dec (r.vessel))) ++ [32, 114, 101, 112, 111, 114, 116, 32]) ++ (dec (r.number))) ++ [58, 32]) ++ (nth wordsL (r.kind.toNat))) ++ [32, 97, 116, 32, 107, 109, 32]) ++ (dec (r.place))) ++ [32, 109, 105, 110, 117, 116, 101, 32]) ++ (dec (r.minute))) ++ [32, 99, 111, 110, 101, 115, 32])) (b := (dec (r.cones))) rfl rfl (by simp only [List.length_append, List.length_cons, List.length_nil]; omega)) ?_
          refine DOps.only (listed' := #[true, true, true, true, true, true, true, true, true, true, true, true, true, true, true, true, true, true, true, true, true, true, true, true, true, true, true, true, true, true, true, true, false]) 31 rfl (by kernel_rfl) rfl rfl ?_
          refine One.st rfl (Yl.call callable56 (.cons rfl (.nil)) (fun w' hw' => seal_msg (r := r) (by simp only [msgT, List.append_assoc, List.cons_append, List.nil_append]) hok)) ?_
          refine ⟨(List.Sublist.cons _ (List.Sublist.refl _)), ?_⟩
          refine DOps.take (listed' := #[true, true, true, true, true, true, true, true, true, true, true, true, true, true, true, true, true, true, true, true, true, true, true, true, true, true, true, true, true, true, true, true, true]) 32 rfl (by kernel_rfl) rfl (List.Sublist.cons _ (List.Sublist.refl _)) rfl rfl (Yv.assign rfl) ?_
          refine DOps.done (by kernel_rfl) ?_
          refine Run.ret ?_
          refine retQ.of (.inr rfl) rfl (.tmp rfl .nil) (fun w' hw' => ?_)
          refine ⟨?_, hw'.bel.below⟩
          exact rfl
        ·
          refine One.st rfl (Yl.call callable57 (.cons rfl (.nil)) (fun w' hw' => l1Num_spec (by omega) (by omega))) ?_
          refine ⟨(List.Sublist.cons _ (List.Sublist.refl _)), ?_⟩
          refine DOps.only (listed' := #[true, true, true, true, true, true, true, true, true, true, true, true, true, true, true, false, false, true, true, true, false, false, true, true, true, false, false, true, true, true, false, false, false]) 14 rfl (by kernel_rfl) rfl rfl ?_
          refine One.st rfl (Yv.loadE lay9 rfl strC_len (Rd.row (i := 0) rfl) (by show r.kind.toNat < 4; omega) rfl).yl ?_
          refine ⟨(List.Sublist.cons _ (List.Sublist.refl _)), ?_⟩
          refine DOps.take (listed' := #[true, true, true, true, true, true, true, true, true, true, true, true, true, true, true, true, false, true, true, true, false, false, true, true, true, false, false, true, true, true, false, false, false]) 15 rfl (by kernel_rfl) rfl (List.Sublist.cons _ (List.Sublist.refl _)) rfl rfl (Yv.strAdd (a := (((([118, 101, 115, 115, 101, 108, 32] ++ (dec (r.vessel))) ++ [32, 114, 101, 112, 111, 114, 116, 32]) ++ (dec (r.number))) ++ [58, 32])) (b := (nth wordsL (r.kind.toNat))) rfl rfl (by simp only [List.length_append, List.length_cons, List.length_nil]; omega)) ?_
          refine DOps.take (listed' := #[true, true, true, true, true, true, true, true, true, true, true, true, true, true, true, true, true, true, true, true, false, false, true, true, true, false, false, true, true, true, false, false, false]) 16 rfl (by kernel_rfl) rfl (List.Sublist.cons _ (List.Sublist.refl _)) rfl rfl (Yv.strAdd (a := ((((([118, 101, 115, 115, 101, 108, 32] ++ (dec (r.vessel))) ++ [32, 114, 101, 112, 111, 114, 116, 32]) ++ (dec (r.number))) ++ [58, 32]) ++ (nth wordsL (r.kind.toNat)))) (b := [32, 97, 116, 32, 107, 109, 32]) rfl rfl (by simp only [List.length_append, List.length_cons, List.length_nil]; omega)) ?_
          refine DOps.take (listed' := #[true, true, true, true, true, true, true, true, true, true, true, true, true, true, true, true, true, true, true, true, true, false, true, true, true, false, false, true, true, true, false, false, false]) 20 rfl (by kernel_rfl) rfl (List.Sublist.cons _ (List.Sublist.refl _)) rfl rfl (Yv.strAdd (a := (((((([118, 101, 115, 115, 101, 108, 32] ++ (dec (r.vessel))) ++ [32, 114, 101, 112, 111, 114, 116, 32]) ++ (dec (r.number))) ++ [58, 32]) ++ (nth wordsL (r.kind.toNat))) ++ [32, 97, 116, 32, 107, 109, 32])) (b := (dec (r.place))) rfl rfl (by simp only [List.length_append, List.length_cons, List.length_nil]; omega)) ?_
          refine DOps.take (listed' := #[true, true, true, true, true, true, true, true, true, true, true, true, true, true, true, true, true, true, true, true, true, true, true, true, true, false, false, true, true, true, false, false, false]) 21 rfl (by kernel_rfl) rfl (List.Sublist.cons _ (List.Sublist.refl _)) rfl rfl (Yv.strAdd (a := ((((((([118, 101, 115, 115, 101, 108, 32] ++ (dec (r.vessel))) ++ [32, 114, 101, 112, 111, 114, 116, 32]) ++ (dec (r.number))) ++ [58, 32]) ++ (nth wordsL (r.kind.toNat))) ++ [32, 97, 116, 32, 107, 109, 32]) ++ (dec (r.place)))) (b := [32, 109, 105, 110, 117, 116, 101, 32]) rfl rfl (by simp only [List.length_append, List.length_cons, List.length_nil]; omega)) ?_
          refine DOps.take (listed' := #[true, true, true, true, true, true, true, true, true, true, true, true, true, true, true, true, true, true, true, true, true, true, true, true, true, true, false, true, true, true, false, false, false]) 25 rfl (by kernel_rfl) rfl (List.Sublist.cons _ (List.Sublist.refl _)) rfl rfl (Yv.strAdd (a := (((((((([118, 101, 115, 115, 101, 108, 32] ++ (dec (r.vessel))) ++ [32, 114, 101, 112, 111, 114, 116, 32]) ++ (dec (r.number))) ++ [58, 32]) ++ (nth wordsL (r.kind.toNat))) ++ [32, 97, 116, 32, 107, 109, 32]) ++ (dec (r.place))) ++ [32, 109, 105, 110, 117, 116, 101, 32])) (b := (dec (r.minute))) rfl rfl (by simp only [List.length_append, List.length_cons, List.length_nil]; omega)) ?_
          refine DOps.take (listed' := #[true, true, true, true, true, true, true, true, true, true, true, true, true, true, true, true, true, true, true, true, true, true, true, true, true, true, true, true, true, true, false, false, false]) 26 rfl (by kernel_rfl) rfl (List.Sublist.cons _ (List.Sublist.refl _)) rfl rfl (Yv.strAdd (a := ((((((((([118, 101, 115, 115, 101, 108, 32] ++ (dec (r.vessel))) ++ [32, 114, 101, 112, 111, 114, 116, 32]) ++ (dec (r.number))) ++ [58, 32]) ++ (nth wordsL (r.kind.toNat))) ++ [32, 97, 116, 32, 107, 109, 32]) ++ (dec (r.place))) ++ [32, 109, 105, 110, 117, 116, 101, 32]) ++ (dec (r.minute)))) (b := [32, 99, 111, 110, 101, 115, 32]) rfl rfl (by simp only [List.length_append, List.length_cons, List.length_nil]; omega)) ?_
          refine DOps.take (listed' := #[true, true, true, true, true, true, true, true, true, true, true, true, true, true, true, true, true, true, true, true, true, true, true, true, true, true, true, true, true, true, true, false, false]) 30 rfl (by kernel_rfl) rfl (List.Sublist.cons _ (List.Sublist.refl _)) rfl rfl (Yv.strAdd (a := (((((((((([118, 101, 115, 115, 101, 108, 32] ++ (dec (r.vessel))) ++ [32, 114, 101, 112, 111, 114, 116, 32]) ++ (dec (r.number))) ++ [58, 32]) ++ (nth wordsL (r.kind.toNat))) ++ [32, 97, 116, 32, 107, 109, 32]) ++ (dec (r.place))) ++ [32, 109, 105, 110, 117, 116, 101, 32]) ++ (dec (r.minute))) ++ [32, 99, 111, 110, 101, 115, 32])) (b := (dec (r.cones))) rfl rfl (by simp only [List.length_append, List.length_cons, List.length_nil]; omega)) ?_
          refine DOps.only (listed' := #[true, true, true, true, true, true, true, true, true, true, true, true, true, true, true, true, true, true, true, true, true, true, true, true, true, true, true, true, true, true, true, true, false]) 31 rfl (by kernel_rfl) rfl rfl ?_
          refine One.st rfl (Yl.call callable56 (.cons rfl (.nil)) (fun w' hw' => seal_msg (r := r) (by simp only [msgT, List.append_assoc, List.cons_append, List.nil_append]) hok)) ?_
          refine ⟨(List.Sublist.cons _ (List.Sublist.refl _)), ?_⟩
          refine DOps.take (listed' := #[true, true, true, true, true, true, true, true, true, true, true, true, true, true, true, true, true, true, true, true, true, true, true, true, true, true, true, true, true, true, true, true, true]) 32 rfl (by kernel_rfl) rfl (List.Sublist.cons _ (List.Sublist.refl _)) rfl rfl (Yv.assign rfl) ?_
          refine DOps.done (by kernel_rfl) ?_
          refine Run.ret ?_
          refine retQ.of (.inr rfl) rfl (.tmp rfl .nil) (fun w' hw' => ?_)
          refine ⟨?_, hw'.bel.below⟩
          exact rfl
      ·
        refine One.st rfl (Yl.call callable57 (.cons rfl (.nil)) (fun w' hw' => l1Num_spec (by omega) (by omega))) ?_
        refine ⟨(List.Sublist.cons _ (List.Sublist.refl _)), ?_⟩
        refine DOps.only (listed' := #[true, true, true, true, true, true, true, true, true, true, true, true, true, true, false, false, false, true, true, true, false, false, true, true, true, false, false, true, true, true, false, false, false]) 13 rfl (by kernel_rfl) rfl rfl ?_
        refine One.st rfl (Yv.indexAddr r.kind.toNat el50 rfl rfl (by omega) (Rd.row (i := 0) rfl) (by omega)).yl ?_
        refine ⟨(List.Sublist.cons _ (List.Sublist.refl _)), ?_⟩
        refine DOps.only (listed' := #[true, true, true, true, true, true, true, true, true, true, true, true, true, true, true, false, false, true, true, true, false, false, true, true, true, false, false, true, true, true, false, false, false]) 14 rfl (by kernel_rfl) rfl rfl ?_
        refine One.st rfl (Yv.loadE lay9 rfl strC_len (Rd.row (i := 0) rfl) (by show r.kind.toNat < 4; omega) rfl).yl ?_
        refine ⟨(List.Sublist.cons _ (List.Sublist.refl _)), ?_⟩
        refine DOps.take (listed' := #[true, true, true, true, true, true, true, true, true, true, true, true, true, true, true, true, false, true, true, true, false, false, true, true, true, false, false, true, true, true, false, false, false]) 15 rfl (by kernel_rfl) rfl (List.Sublist.cons _ (List.Sublist.refl _)) rfl rfl (Yv.strAdd (a := (((([118, 101, 115, 115, 101, 108, 32] ++ (dec (r.vessel))) ++ [32, 114, 101, 112, 111, 114, 116, 32]) ++ (dec (r.number))) ++ [58, 32])) (b := (nth wordsL (r.kind.toNat))) rfl rfl (by simp only [List.length_append, List.length_cons, List.length_nil]; omega)) ?_
        refine DOps.take (listed' := #[true, true, true, true, true, true, true, true, true, true, true, true, true, true, true, true, true, true, true, true, false, false, true, true, true, false, false, true, true, true, false, false, false]) 16 rfl (by kernel_rfl) rfl (List.Sublist.cons _ (List.Sublist.refl _)) rfl rfl (Yv.strAdd (a := ((((([118, 101, 115, 115, 101, 108, 32] ++ (dec (r.vessel))) ++ [32, 114, 101, 112, 111, 114, 116, 32]) ++ (dec (r.number))) ++ [58, 32]) ++ (nth wordsL (r.kind.toNat)))) (b := [32, 97, 116, 32, 107, 109, 32]) rfl rfl (by simp only [List.length_append, List.length_cons, List.length_nil]; omega)) ?_
        refine DOps.take (listed' := #[true, true, true, true, true, true, true, true, true, true, true, true, true, true, true, true, true, true, true, true, true, false, true, true, true, false, false, true, true, true, false, false, false]) 20 rfl (by kernel_rfl) rfl (List.Sublist.cons _ (List.Sublist.refl _)) rfl rfl (Yv.strAdd (a := (((((([118, 101, 115, 115, 101, 108, 32] ++ (dec (r.vessel))) ++ [32, 114, 101, 112, 111, 114, 116, 32]) ++ (dec (r.number))) ++ [58, 32]) ++ (nth wordsL (r.kind.toNat))) ++ [32, 97, 116, 32, 107, 109, 32])) (b := (dec (r.place))) rfl rfl (by simp only [List.length_append, List.length_cons, List.length_nil]; omega)) ?_
        refine DOps.take (listed' := #[true, true, true, true, true, true, true, true, true, true, true, true, true, true, true, true, true, true, true, true, true, true, true, true, true, false, false, true, true, true, false, false, false]) 21 rfl (by kernel_rfl) rfl (List.Sublist.cons _ (List.Sublist.refl _)) rfl rfl (Yv.strAdd (a := ((((((([118, 101, 115, 115, 101, 108, 32] ++ (dec (r.vessel))) ++ [32, 114, 101, 112, 111, 114, 116, 32]) ++ (dec (r.number))) ++ [58, 32]) ++ (nth wordsL (r.kind.toNat))) ++ [32, 97, 116, 32, 107, 109, 32]) ++ (dec (r.place)))) (b := [32, 109, 105, 110, 117, 116, 101, 32]) rfl rfl (by simp only [List.length_append, List.length_cons, List.length_nil]; omega)) ?_
        refine DOps.take (listed' := #[true, true, true, true, true, true, true, true, true, true, true, true, true, true, true, true, true, true, true, true, true, true, true, true, true, true, false, true, true, true, false, false, false]) 25 rfl (by kernel_rfl) rfl (List.Sublist.cons _ (List.Sublist.refl _)) rfl rfl (Yv.strAdd (a := (((((((([118, 101, 115, 115, 101, 108, 32] ++ (dec (r.vessel))) ++ [32, 114, 101, 112, 111, 114, 116, 32]) ++ (dec (r.number))) ++ [58, 32]) ++ (nth wordsL (r.kind.toNat))) ++ [32, 97, 116, 32, 107, 109, 32]) ++ (dec (r.place))) ++ [32, 109, 105, 110, 117, 116, 101, 32])) (b := (dec (r.minute))) rfl rfl (by simp only [List.length_append, List.length_cons, List.length_nil]; omega)) ?_
        refine DOps.take (listed' := #[true, true, true, true, true, true, true, true, true, true, true, true, true, true, true, true, true, true, true, true, true, true, true, true, true, true, true, true, true, true, false, false, false]) 26 rfl (by kernel_rfl) rfl (List.Sublist.cons _ (List.Sublist.refl _)) rfl rfl (Yv.strAdd (a := ((((((((([118, 101, 115, 115, 101, 108, 32] ++ (dec (r.vessel))) ++ [32, 114, 101, 112, 111, 114, 116, 32]) ++ (dec (r.number))) ++ [58, 32]) ++ (nth wordsL (r.kind.toNat))) ++ [32, 97, 116, 32, 107, 109, 32]) ++ (dec (r.place))) ++ [32, 109, 105, 110, 117, 116, 101, 32]) ++ (dec (r.minute)))) (b := [32, 99, 111, 110, 101, 115, 32]) rfl rfl (by simp only [List.length_append, List.length_cons, List.length_nil]; omega)) ?_
        refine DOps.take (listed' := #[true, true, true, true, true, true, true, true, true, true, true, true, true, true, true, true, true, true, true, true, true, true, true, true, true, true, true, true, true, true, true, false, false]) 30 rfl (by kernel_rfl) rfl (List.Sublist.cons _ (List.Sublist.refl _)) rfl rfl (Yv.strAdd (a := (((((((((([118, 101, 115, 115, 101, 108, 32] ++ (dec (r.vessel))) ++ [32, 114, 101, 112, 111, 114, 116, 32]) ++ (dec (r.number))) ++ [58, 32]) ++ (nth wordsL (r.kind.toNat))) ++ [32, 97, 116, 32, 107, 109, 32]) ++ (dec (r.place))) ++ [32, 109, 105, 110, 117, 116, 101, 32]) ++ (dec (r.minute))) ++ [32, 99, 111, 110, 101, 115, 32])) (b := (dec (r.cones))) rfl rfl (by simp only [List.length_append, List.length_cons, List.length_nil]; omega)) ?_
        refine DOps.only (listed' := #[true, true, true, true, true, true, true, true, true, true, true, true, true, true, true, true, true, true, true, true, true, true, true, true, true, true, true, true, true, true, true, true, false]) 31 rfl (by kernel_rfl) rfl rfl ?_
        refine One.st rfl (Yl.call callable56 (.cons rfl (.nil)) (fun w' hw' => seal_msg (r := r) (by simp only [msgT, List.append_assoc, List.cons_append, List.nil_append]) hok)) ?_
        refine ⟨(List.Sublist.cons _ (List.Sublist.refl _)), ?_⟩
        refine DOps.take (listed' := #[true, true, true, true, true, true, true, true, true, true, true, true, true, true, true, true, true, true, true, true, true, true, true, true, true, true, true, true, true, true, true, true, true]) 32 rfl (by kernel_rfl) rfl (List.Sublist.cons _ (List.Sublist.refl _)) rfl rfl (Yv.assign rfl) ?_
        refine DOps.done (by kernel_rfl) ?_
        refine Run.ret ?_
        refine retQ.of (.inr rfl) rfl (.tmp rfl .nil) (fun w' hw' => ?_)
        refine ⟨?_, hw'.bel.below⟩
        exact rfl
def textOf (r : Report) : List UInt8 × Bool := if oneR r = true then (sealT (msgT r), true) else ([], false)
theorem MessageOf_spec {w : World} {r : Report} (htab : Tab10 w) (hwords : Words w) : Calls Tryz.prog 6 #[.agg r.enc.toArray] w (RetB w (.tuple #[strV (textOf r).1, .bool (textOf r).2])) := by
  refine calls_of_run (vs := [_]) (L := [(0, _)]) (n := 9) (F := []) (H := []) Tryz.func6 rfl rfl rfl rfl (HOk.start _) ?_
  refine Run.seq ?_
  refine Run.ops ?_
  refine SOps.one rfl (One.box (cs := [_, _, _, _, _, _]) rfl rfl rfl (fun b1 => ?_))
  refine SOps.st rfl rfl (Yv.assign rfl).yl ?_
  refine SOps.st rfl rfl (Yv.assign rfl).yl ?_
  refine SOps.nil ?_
  refine Run.seq ?_
  refine Run.seq ?_
  refine Run.quiet (by intro h; cases h) ?_
  refine QOps.st rfl rfl (Yv.loadBs (i := 0) lay25 rfl rfl rfl rfl).yl ?_
  refine QOps.st rfl rfl (Yl.call callable8 (.cons rfl (.nil)) (fun w' hw' => IsEReport_spec)) ?_
  refine QOps.st rfl rfl (Yv.not rfl).yl ?_
  refine QOps.nil ?_
  refine Run.cond rfl (fun hc1 => ?_) (fun hc1 => ?_)
  · try replace hc1 := of_decide_eq_true hc1
    have hno : ¬ oneR r = true := by simpa using hc1
    refine Run.seq ?_
    refine Run.quiet (by intro h; cases h) ?_
    refine QOps.st rfl rfl (Yv.assign rfl).yl ?_
    refine QOps.st rfl rfl (Yv.assign rfl).yl ?_
    refine QOps.nil ?_
    refine Run.ret ?_
    refine retQ.of (.inr rfl) rfl (.tmp rfl (.tmp rfl .nil)) (fun w' hw' => ?_)
    refine ⟨?_, hw'.bel.below⟩
    unfold textOf; rw [if_neg hno]; rfl
  · try replace hc1 := of_decide_eq_false hc1
    have hok : oneR r = true := by simpa using hc1
    refine Run.skip ?_
    refine Run.seq ?_
    refine Run.quiet (by intro h; cases h) ?_
    refine QOps.st rfl rfl (Yv.loadBs (i := 0) lay25 rfl rfl rfl rfl).yl ?_
    refine QOps.st rfl rfl (Yl.call callable23 (.cons rfl (.nil)) (fun w' hw' => messageOf_spec (tab_at htab hw') (words_at hwords hw') hok)) ?_
    refine QOps.st rfl rfl (Yv.assign rfl).yl ?_
    refine QOps.st rfl rfl (Yv.assign rfl).yl ?_
    refine QOps.nil ?_
    refine Run.ret ?_
    refine retQ.of (.inr rfl) rfl (.tmp rfl (.tmp rfl .nil)) (fun w' hw' => ?_)
    refine ⟨?_, hw'.bel.below⟩
    unfold textOf; rw [if_pos hok]; rfl

theorem sMessageOf_spec {w : World} {r : Report} : Calls Tryz.prog 7 #[.agg r.enc.toArray] w (RetB w (.tuple #[strV (textOf r).1, .bool (textOf r).2])) := by
  refine calls_of_run (vs := [_]) (L := [(0, _)]) (n := 9) (F := []) (H := []) Tryz.func7 rfl rfl rfl rfl (HOk.start _) ?_
  refine Run.seq ?_
  refine Run.ops ?_
  refine SOps.one rfl (One.box (cs := [_, _, _, _, _, _]) rfl rfl rfl (fun b1 => ?_))
  refine SOps.st rfl rfl (Yv.assign rfl).yl ?_
  refine SOps.st rfl rfl (Yv.assign rfl).yl ?_
  refine SOps.nil ?_
  refine Run.seq ?_
  refine Run.seq ?_
  refine Run.quiet (by intro h; cases h) ?_
  refine QOps.st rfl rfl (Yv.loadBs (i := 0) lay25 rfl rfl rfl rfl).yl ?_
  refine QOps.st rfl rfl (Yl.call callable24 (.cons rfl (.nil)) (fun w' hw' => l20One_spec)) ?_
  refine QOps.st rfl rfl (Yv.not rfl).yl ?_
  refine QOps.nil ?_
  refine Run.cond rfl (fun hc1 => ?_) (fun hc1 => ?_)
  · try replace hc1 := of_decide_eq_true hc1
    have hno : ¬ oneR r = true := by simpa using hc1
    refine Run.seq ?_
    refine Run.quiet (by intro h; cases h) ?_
    refine QOps.st rfl rfl (Yv.assign rfl).yl ?_
    refine QOps.st rfl rfl (Yv.assign rfl).yl ?_
    refine QOps.nil ?_
    refine Run.ret ?_
    refine retQ.of (.inr rfl) rfl (.tmp rfl (.tmp rfl .nil)) (fun w' hw' => ?_)
    refine ⟨?_, hw'.bel.below⟩
    unfold textOf; rw [if_neg hno]; rfl
  · try replace hc1 := of_decide_eq_false hc1
    have hok : oneR r = true := by simpa using hc1
    refine Run.skip ?_
    refine Run.seq ?_
    refine Run.quiet (by intro h; cases h) ?_
    refine QOps.st rfl rfl (Yv.loadBs (i := 0) lay25 rfl rfl rfl rfl).yl ?_
    refine QOps.st rfl rfl (Yl.call callable25 (.cons rfl (.nil)) (fun w' hw' => l20Text_spec hok)) ?_
    refine QOps.st rfl rfl (Yv.assign rfl).yl ?_
    refine QOps.st rfl rfl (Yv.assign rfl).yl ?_
    refine QOps.nil ?_
    refine Run.ret ?_
    refine retQ.of (.inr rfl) rfl (.tmp rfl (.tmp rfl .nil)) (fun w' hw' => ?_)
    refine ⟨?_, hw'.bel.below⟩
    unfold textOf; rw [if_pos hok]; rfl

end Go.Proofs.YtlpgcbkialcjcaaGreatDoor
