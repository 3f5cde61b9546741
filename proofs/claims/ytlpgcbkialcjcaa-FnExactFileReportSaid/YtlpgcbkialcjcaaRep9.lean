/- Reports: a report is searched for, and put into a file. Conditions: none. -/
import Derived.Test.YtlpgcbkialcjcaaRep5
import Derived.Test.YtlpgcbkialcjcaaIn
namespace Go.Proofs.Ytlpgcbkialcjcaa
open Go.RowKit
set_option maxRecDepth 100000
theorem cmpR_lt {a b : Report} : decide (cmpR a b < 0) = beforeR a b := by
  have h := cmpR_ge (a := a) (b := b)
  by_cases h2 : 0 ≤ cmpR a b
  · rw [decide_eq_true h2] at h
    rw [decide_eq_false (by omega)]
    cases hb : beforeR a b <;> rw [hb] at h <;> simp_all
  · rw [decide_eq_false h2] at h
    rw [decide_eq_true (by omega)]
    cases hb : beforeR a b <;> rw [hb] at h <;> simp_all
theorem cmpR_zero {a b : Report} (h : beforeR a b = false) : decide (cmpR a b = 0) = !beforeR b a := by
  simp only [beforeR, Bool.or_eq_false_iff, Bool.and_eq_false_iff, decide_eq_false_iff_not] at h
  unfold cmpR beforeR
  rcases Int.lt_trichotomy a.vessel b.vessel with h1 | h1 | h1
  · omega
  · rcases Int.lt_trichotomy a.number b.number with h2 | h2 | h2
    · omega
    · simp [orI, cmpI_self, h1, h2]
    · simp [orI, cmpI_self, cmpI_gt h2, h1, h2]
  · simp [orI, cmpI_gt h1, h1]
theorem half (n : Nat) : Int.fdiv (n : Int) (2 ^ (min (Int.toNat 1) (IntKind.bits .u64))) = ((n / 2 : Nat) : Int) := by
  rw [show (2 : Int) ^ (min (Int.toNat 1) (IntKind.bits .u64)) = 2 from by decide, Int.fdiv_eq_ediv_of_nonneg _ (by omega)]
  omega
theorem search_spec {w : World} {A : Option Addr} {c : Nat} {rs : List Report} {r : Report} (hs : Sl w 6 A rs.length c (rs.flatMap Report.enc)) (hl : rs.length ≤ 1048576) (hm : ∀ x y, x ≤ y → y < rs.length → beforeR (nth rs y) r = true → beforeR (nth rs x) r = true) :
    Calls Try.prog 57 #[.slice A rs.length c, .agg r.enc.toArray, .func (.func 46) #[] #[]] w (RetB w (.tuple #[.int .i64 (posR rs r), .bool (foundR rs r)])) := by
  refine calls_of_run (vs := [_, _, _]) (L := [(0, _), (1, _), (2, _)]) (n := 49) (F := []) (H := []) Try.func57 rfl rfl rfl rfl (HOk.start _) ?_
  refine Run.seq ?_
  refine Run.ops ?_
  refine SOps.one rfl (One.box (cs := [_, _, _, _, _, _]) rfl rfl rfl (fun b1 => ?_))
  refine SOps.st rfl rfl (Yv.assign rfl).yl ?_
  refine SOps.st rfl rfl (Yv.assign rfl).yl ?_
  refine SOps.nil ?_
  refine Run.seq ?_
  refine Run.quiet (by intro h; cases h) ?_
  refine QOps.st rfl rfl (Yv.move rfl).yl ?_
  refine QOps.st rfl rfl (Yv.lenS el31s rfl).yl ?_
  refine QOps.st rfl rfl (Yv.assign rfl).yl ?_
  refine QOps.nil ?_
  refine Run.seq ?_
  refine Run.quiet (by intro h; cases h) ?_
  refine QOps.st rfl rfl (Yv.move rfl).yl ?_
  refine QOps.st rfl rfl (Yv.assign rfl).yl ?_
  refine QOps.st rfl rfl (Yv.assign rfl).yl ?_
  refine QOps.nil ?_
  refine Run.seq ?_
  refine Run.block ?_
  refine Run.loop (S := Nat × Nat) (fun s => match s with | (i, j) => i ≤ j ∧ j ≤ rs.length ∧ (∀ x, x < i → beforeR (nth rs x) r = true) ∧ ∀ x, j ≤ x → x < rs.length → beforeR (nth rs x) r = false) (fun s => match s with | (i, j) => [(0, .slice A rs.length c), (2, .func (.func 46) #[] #[]), (4, .pointer (some ⟨b1, 0, none⟩)), (8, .int .i64 (rs.length : Int)), (9, .int .i64 (i : Int)), (10, .int .i64 (j : Int))]) (fun s => match s with | (i, j) => [.blk b1 25 (Report.enc r)]) (fun s => match s with | (i, j) => j - i) (0, rs.length) ?_ (SubE.cons rfl (SubE.cons rfl (SubE.cons rfl (SubE.cons rfl (SubE.cons rfl (SubE.cons rfl (SubE.nil _))))))) (List.Sublist.refl _) ?_
  · exact ⟨by omega, by omega, fun x hx => by omega, fun x h1 h2 => by omega⟩
  · rintro ⟨i, j⟩ ⟨hij, hjn, hlo, hhi⟩
    show Run _ _ _ _ _ [(0, .slice A rs.length c), (2, .func (.func 46) #[] #[]), (4, .pointer (some ⟨b1, 0, none⟩)), (8, .int .i64 (rs.length : Int)), (9, .int .i64 (i : Int)), (10, .int .i64 (j : Int))] [.blk b1 25 (Report.enc r)] _
    refine Run.seq ?_
    refine Run.seq ?_
    refine Run.quiet (by intro h; cases h) ?_
    refine QOps.st rfl rfl (Yv.move rfl).yl ?_
    refine QOps.st rfl rfl (Yv.move rfl).yl ?_
    refine QOps.st rfl rfl (Yv.lss rfl rfl).yl ?_
    refine QOps.nil ?_
    refine Run.cond rfl (fun hc1 => ?_) (fun hc1 => ?_)
    · try replace hc1 := of_decide_eq_true hc1
      refine Run.skip ?_
      refine Run.block ?_
      refine Run.seq ?_
      refine Run.quiet (by intro h; cases h) ?_
      refine QOps.st rfl rfl (Yv.move rfl).yl ?_
      refine QOps.st rfl rfl (Yv.move rfl).yl ?_
      refine QOps.st rfl rfl (Yv.add rfl rfl (by omega)).yl ?_
      refine QOps.st rfl rfl (Yv.convT (j := ((i + j : Nat) : Int)) int3 int75 rfl (by rw [IntKind.wrap_u64]; omega)).yl ?_
      refine QOps.st rfl rfl (Yv.shr rfl rfl (by decide)).yl ?_
      refine QOps.st rfl rfl (Yv.convT (j := (((i + j) / 2 : Nat) : Int)) int75 int3 rfl (by rw [half, IntKind.wrap_i64]; omega)).yl ?_
      refine QOps.st rfl rfl (Yv.assign rfl).yl ?_
      refine QOps.nil ?_
      refine Run.seq ?_
      refine Run.quiet (fun _ => ⟨by kernel_rfl, by kernel_rfl⟩) ?_
      refine QOps.st rfl rfl (Yv.move rfl).yl ?_
      refine QOps.st rfl rfl (Yv.move rfl).yl ?_
      refine QOps.st rfl rfl (Yv.move rfl).yl ?_
      refine QOps.st rfl rfl (Yv.indexAddr ((i + j) / 2) el31 rfl rfl rfl (Rd.arg hs) (by omega)).yl ?_
      refine QOps.st rfl rfl (Yv.loadEs lay25 rfl Report.len (Rd.arg hs) (by first | omega | (simp; omega)) (by decide)).yl ?_
      refine QOps.st rfl rfl (Yv.loadBs (i := 0) lay25 rfl rfl rfl rfl).yl ?_
      refine QOps.st rfl rfl (Yl.callV rfl callable46 (.cons rfl (.cons rfl (.nil))) (fun w' hw' => compareReports_spec)) ?_
      refine QOps.st rfl rfl (Yv.lss rfl rfl).yl ?_
      refine QOps.nil ?_
      refine Run.cond rfl (fun hc2 => ?_) (fun hc2 => ?_)
      · try replace hc2 := of_decide_eq_true hc2
        have hb : beforeR (nth rs ((i + j) / 2)) r = true := by rw [← cmpR_lt]; exact decide_eq_true hc2
        refine Run.quiet (by intro h; cases h) ?_
        refine QOps.st rfl rfl (Yv.move rfl).yl ?_
        refine QOps.st rfl rfl (Yv.succN rfl rfl (by omega)).yl ?_
        refine QOps.st rfl rfl (Yv.assign rfl).yl ?_
        refine QOps.nil ?_
        refine ⟨((i + j) / 2 + 1, j), ?_, ?_, (SubE.cons rfl (SubE.cons rfl (SubE.cons rfl (SubE.cons rfl (SubE.cons rfl (SubE.cons rfl (SubE.nil _))))))), (List.Sublist.refl _)⟩
        · exact ⟨by omega, hjn, fun x hx => hm x ((i + j) / 2) (by omega) (by omega) hb, hhi⟩
        · first | omega | (dsimp only; omega)
      · try replace hc2 := of_decide_eq_false hc2
        have hb : beforeR (nth rs ((i + j) / 2)) r = false := by rw [← cmpR_lt]; exact decide_eq_false hc2
        refine Run.quiet (by intro h; cases h) ?_
        refine QOps.st rfl rfl (Yv.move rfl).yl ?_
        refine QOps.st rfl rfl (Yv.assign rfl).yl ?_
        refine QOps.nil ?_
        refine ⟨(i, (i + j) / 2), ?_, ?_, (SubE.cons rfl (SubE.cons rfl (SubE.cons rfl (SubE.cons rfl (SubE.cons rfl (SubE.cons rfl (SubE.nil _))))))), (List.Sublist.refl _)⟩
        · exact ⟨by omega, by omega, hlo, fun x h1 h2 => by
                by_cases h3 : beforeR (nth rs x) r = true
                · rw [hm ((i + j) / 2) x h1 h2 h3] at hb; cases hb
                · simpa using h3⟩
        · first | omega | (dsimp only; omega)
    · try replace hc1 := of_decide_eq_false hc1
      refine Run.exit ?_
      refine Run.seq ?_
      refine Run.quiet (fun _ => ⟨by kernel_rfl, by kernel_rfl⟩) ?_
      refine QOps.st rfl rfl (Yv.move rfl).yl ?_
      refine QOps.st rfl rfl (Yv.move rfl).yl ?_
      refine QOps.st rfl rfl (Yv.move rfl).yl ?_
      refine QOps.st rfl rfl (Yv.lss rfl rfl).yl ?_
      refine QOps.st rfl rfl (Yv.move rfl).yl ?_
      refine' QOps.and [_, _, _, _, _, _, _, _] _ (.tmp 47) rfl rfl rfl rfl rfl rfl (fun hg1 => ?_) ?_
      rotate_left
      · try replace hg1 := of_decide_eq_true hg1
        refine QOps.st rfl rfl (Yv.move rfl).yl ?_
        refine QOps.st rfl rfl (Yv.move rfl).yl ?_
        refine QOps.st rfl rfl (Yv.move rfl).yl ?_
        refine QOps.st rfl rfl (Yv.indexAddr i el31 rfl rfl rfl (Rd.arg hs) (by omega)).yl ?_
        refine QOps.st rfl rfl (Yv.loadEs lay25 rfl Report.len (Rd.arg hs) (by first | omega | (simp; omega)) (by decide)).yl ?_
        refine QOps.st rfl rfl (Yv.loadBs (i := 0) lay25 rfl rfl rfl rfl).yl ?_
        refine QOps.st rfl rfl (Yl.callV rfl callable46 (.cons rfl (.cons rfl (.nil))) (fun w' hw' => compareReports_spec)) ?_
        refine QOps.st rfl rfl (Yv.eqI rfl rfl).yl ?_
        exact QOps.nil rfl
      refine QOps.st rfl rfl (Yv.assign rfl).yl ?_
      refine QOps.st rfl rfl (Yv.assign rfl).yl ?_
      refine QOps.nil ?_
      refine Run.ret ?_
      obtain rfl : j = i := by omega
      have hp : posR rs r = j := posR_eq hjn hlo (by
          by_cases h3 : j < rs.length
          · rw [hhi j (Nat.le_refl _) h3]; simp
          · rw [decide_eq_false (by omega)]; rfl)
      refine retQ.of (.inr rfl) rfl (.tmp rfl (.tmp rfl .nil)) (fun w' hw' => ?_)
      refine ⟨?_, hw'.bel.below⟩
      unfold foundR
      rw [hp]
      by_cases h3 : j < rs.length
      · rw [← cmpR_zero (hhi j (Nat.le_refl _) h3)]; rfl
      · simp [h3]; rfl
theorem ins_a {rs : List Report} {r : Report} {i : Nat} (h : i = rs.length) : rs ++ [r] = rs.take i ++ [r] ++ rs.drop i := by
  subst h
  simp
theorem ins_b {rs : List Report} {r z : Report} {i m : Nat} (h : i < rs.length) (hm : m = rs.length + 1 - i) : ((List.take i (rs.take i ++ List.replicate m z) ++ List.take 1 [r] ++ List.drop (i + 1) (rs.take i ++ List.replicate m z)).take (i + 1) ++ (rs.drop i).take (rs.length - i) ++ (List.take i (rs.take i ++ List.replicate m z) ++ List.take 1 [r] ++ List.drop (i + 1) (rs.take i ++ List.replicate m z)).drop (i + 1 + (rs.length - i))) = rs.take i ++ [r] ++ rs.drop i := by
  have e1 : List.take i (rs.take i ++ List.replicate m z) = rs.take i := List.take_left' (by simp; omega)
  have hl : (rs.take i ++ List.take 1 [r] : List Report).length = i + 1 := by simp; omega
  have hD : (rs.take i ++ List.take 1 [r] ++ List.drop (i + 1) (rs.take i ++ List.replicate m z)).length ≤ i + 1 + (rs.length - i) := by
    rw [List.length_append, hl, List.length_drop, List.length_append, List.length_take, List.length_replicate]
    omega
  rw [e1, List.take_left' hl, List.take_of_length_le (Nat.le_of_eq List.length_drop), List.drop_of_length_le hD, List.append_nil]
  rfl
theorem ins_c {rs : List Report} {r : Report} {i : Nat} (h : i < rs.length) : (List.take i (rs.take (i + 1) ++ rs.drop i) ++ List.take 1 [r] ++ List.drop (i + 1) (rs.take (i + 1) ++ rs.drop i)) = rs.take i ++ [r] ++ rs.drop i := by
  have e1 : (rs.take (i + 1) ++ rs.drop i).drop (i + 1) = rs.drop i := List.drop_left' (by simp; omega)
  have e2 : (rs.take (i + 1) ++ rs.drop i).take i = rs.take i := by
    rw [List.take_append_of_le_length (by simp; omega), List.take_take, Nat.min_eq_left (by omega)]
  rw [e1, e2]
  rfl
theorem row_bel {w w' : World} {F : List Nat} {H : List HEnt} {vb c T sz m : Nat} {xs : List Value} (hv : (HEnt.row (some ⟨vb, 0, none⟩) c T sz m xs).ok w) (hF : vb ∉ F) (hw : HOk w F H w') : (HEnt.row (some ⟨vb, 0, none⟩) c T sz m xs).ok w' :=
  hv.kept (fun g hg => hw.bel.block g (hv.lt g hg) (by simp only [HEnt.block, Option.map_some, Option.some.injEq] at hg; subst hg; exact hF))
theorem insert_spec {w : World} {A : Option Addr} {c vb i : Nat} {rs : List Report} {r : Report} (hrow : (HEnt.row A c 25 6 rs.length (rs.flatMap Report.enc)).ok w) (hv : (HEnt.row (some ⟨vb, 0, none⟩) 1 25 6 1 ([r].flatMap Report.enc)).ok w) (hne : A.map (·.block) ≠ some vb) (hi : i ≤ rs.length) (hl : rs.length ≤ 1048576) :
    Calls Try.prog 58 #[.slice A rs.length c, .int .i64 (i : Int), .slice (some ⟨vb, 0, none⟩) 1 1] w (RetGrow w A 25 6 (rs.length + 1) ((rs.take i ++ [r] ++ rs.drop i).flatMap Report.enc)) := by
  have hmc := (sl_of_row hrow).cap
  have hmx := Sl.lenle (sl_of_row hrow)
  have hvb : vb ∉ (A.map (·.block)).toList := fun h => hne (Option.mem_toList.1 h)
  refine calls_of_run (vs := [_, _, _]) (L := [(0, _), (1, _), (2, _)]) (n := 95) (F := (A.map (·.block)).toList) (H := [_]) Try.func58 rfl rfl rfl rfl (HOk.borrowRow hrow) ?_
  refine Run.seq ?_
  refine Run.quiet (by intro h; cases h) ?_
  refine QOps.st rfl rfl (Yv.assign rfl).yl ?_
  refine QOps.nil ?_
  refine Run.seq ?_
  refine Run.quiet (by intro h; cases h) ?_
  refine QOps.st rfl rfl (Yv.move rfl).yl ?_
  refine QOps.st rfl rfl (Yv.move rfl).yl ?_
  refine QOps.st rfl rfl (Yv.cutFrom i el31 rfl rfl rfl (by omega)).yl ?_
  refine QOps.nil ?_
  refine Run.seq ?_
  refine Run.quiet (by intro h; cases h) ?_
  refine QOps.st rfl rfl (Yv.move rfl).yl ?_
  refine QOps.st rfl rfl (Yv.lenS el31s rfl).yl ?_
  refine QOps.st rfl rfl (Yv.assign rfl).yl ?_
  refine QOps.nil ?_
  refine Run.seq ?_
  refine Run.seq ?_
  refine Run.quiet (by intro h; cases h) ?_
  refine QOps.st rfl rfl (Yv.move rfl).yl ?_
  refine QOps.st rfl rfl (Yv.eqI rfl rfl).yl ?_
  refine QOps.nil ?_
  refine Run.cond rfl (fun hc1 => ?_) (fun hc1 => ?_)
  · exfalso
    simp at hc1
  · try replace hc1 := of_decide_eq_false hc1
    refine Run.skip ?_
    refine Run.seq ?_
    refine Run.quiet (by intro h; cases h) ?_
    refine QOps.st rfl rfl (Yv.move rfl).yl ?_
    refine QOps.st rfl rfl (Yv.lenS el31s rfl).yl ?_
    refine QOps.st rfl rfl (Yv.assign rfl).yl ?_
    refine QOps.nil ?_
    refine Run.seq ?_
    refine Run.seq ?_
    refine Run.quiet (by intro h; cases h) ?_
    refine QOps.st rfl rfl (Yv.move rfl).yl ?_
    refine QOps.st rfl rfl (Yv.move rfl).yl ?_
    refine QOps.st rfl rfl (Yv.eqI rfl rfl).yl ?_
    refine QOps.nil ?_
    refine Run.cond rfl (fun hc2 => ?_) (fun hc2 => ?_)
    · try replace hc2 := of_decide_eq_true hc2
      refine Run.seq ?_
      refine Run.ops ?_
      refine SOps.st rfl rfl (Yv.move rfl).yl ?_
      refine SOps.st rfl rfl (Yv.move rfl).yl ?_
      refine SOps.one rfl (One.append (enc := Report.enc) (l := rs) (l2 := [r]) (m' := (rs.length + 1)) (i := 0) (H' := fun A c => [_]) rfl el31 zero25 rfl (by decide) rfl rfl rfl (Rd.argN (sl_of_row hv) (fun _ => hvb)) (fun _ => rfl) rfl (by omega) (by omega) (fun _ _ => rfl) (fun A1 c1 => ?_))
      refine SOps.st rfl rfl (Yv.assign rfl).yl ?_
      refine SOps.nil ?_
      refine Run.ret ?_
      refine retQ.of (.inr rfl) rfl (.tmp rfl .nil) (fun w' hw' => ?_)
      have h9 := hw'.ent _ (List.mem_of_getElem? (i := 0) rfl)
      rw [ins_a (r := r) (show i = rs.length by omega)] at h9
      exact ⟨_, _, rfl, hw'.bel, h9, fun g hg => (hw'.own _ (List.mem_of_getElem? (i := 0) rfl) g hg).symm.imp (fun h => Option.mem_toList.1 h) id⟩
    · try replace hc2 := of_decide_eq_false hc2
      refine Run.skip ?_
      refine Run.seq ?_
      refine Run.seq ?_
      refine Run.quiet (by intro h; cases h) ?_
      refine QOps.st rfl rfl (Yv.move rfl).yl ?_
      refine QOps.st rfl rfl (Yv.move rfl).yl ?_
      refine QOps.st rfl rfl (Yv.add rfl rfl (by omega)).yl ?_
      refine QOps.st rfl rfl (Yv.move rfl).yl ?_
      refine QOps.st rfl rfl (Yv.capS el31s rfl).yl ?_
      refine QOps.st rfl rfl (Yv.gtr rfl rfl).yl ?_
      refine QOps.nil ?_
      refine Run.cond rfl (fun hc3 => ?_) (fun hc3 => ?_)
      · try replace hc3 := of_decide_eq_true hc3
        refine Run.seq ?_
        refine Run.ops ?_
        refine SOps.st rfl rfl (Yv.move rfl).yl ?_
        refine SOps.st rfl rfl (Yv.move rfl).yl ?_
        refine SOps.st rfl rfl (Yv.cutTo0 i el31 rfl rfl rfl (by omega)).yl ?_
        refine SOps.st rfl rfl (Yv.move rfl).yl ?_
        refine SOps.st rfl rfl (Yv.move rfl).yl ?_
        refine SOps.st rfl rfl (Yv.add rfl rfl (by omega)).yl ?_
        refine SOps.st rfl rfl (Yv.move rfl).yl ?_
        refine SOps.st rfl rfl (Yv.sub rfl rfl (by omega)).yl ?_
        refine SOps.one rfl (One.appendZN (enc := Report.enc) (l2 := rs.take i) (k := i) (q := rs.length + 1 - i) (m' := rs.length + 1) default rfl el31 int3 zero25 rfl Report.len (by decide) rfl rfl (by omega) (Rd.cut0 (xs := rs) Report.len (Rd.row (i := 0) rfl) (by omega)) (by omega) (by omega) (by omega) (by omega) (by omega) (fun AZ cZ hgeZ => ?_))
        refine SOps.st rfl rfl (Yv.assign rfl).yl ?_
        refine SOps.nil ?_
        refine Run.seq ?_
        refine Run.ops ?_
        refine SOps.st rfl rfl (Yv.move rfl).yl ?_
        refine SOps.st rfl rfl (Yv.move rfl).yl ?_
        refine SOps.st rfl rfl (Yv.cutFrom i el31 rfl rfl rfl (by omega)).yl ?_
        refine SOps.st rfl rfl (Yv.move rfl).yl ?_
        refine SOps.one rfl (One.copy (enc := Report.enc) (l := (rs.take i ++ List.replicate (rs.length + 1 - i) default)) (l2 := [r]) (o := i) (q := 1) (i := 0) (H' := [_, _]) rfl el31 Report.len (fun _ => rfl) rfl rfl (fun _ => cutA_at (by omega)) rfl (by omega) (Rd.argN (sl_of_row hv) (fun _ => hvb)) rfl (by omega) rfl ?_)
        refine SOps.nil ?_
        refine Run.seq ?_
        refine Run.draws (fun H => (H).eraseIdx 0) (m := 9) (listed := #[false, false, false, false, false, false, false, false, false]) (by kernel_rfl) rfl rfl ?_
        refine DOps.take (listed' := #[true, false, false, false, false, false, false, false, false]) 0 rfl (by kernel_rfl) rfl (List.Sublist.cons _ (List.Sublist.refl _)) rfl rfl (Yv.move rfl) ?_
        refine DOps.take (listed' := #[true, true, false, false, false, false, false, false, false]) 1 rfl (by kernel_rfl) rfl (List.Sublist.cons _ (List.Sublist.refl _)) rfl rfl (Yv.move rfl) ?_
        refine DOps.take (listed' := #[true, true, true, false, false, false, false, false, false]) 2 rfl (by kernel_rfl) rfl (List.Sublist.cons _ (List.Sublist.refl _)) rfl rfl (Yv.move rfl) ?_
        refine DOps.take (listed' := #[true, true, true, true, false, false, false, false, false]) 3 rfl (by kernel_rfl) rfl (List.Sublist.cons _ (List.Sublist.refl _)) rfl rfl (Yv.add rfl rfl (by omega)) ?_
        refine DOps.take (listed' := #[true, true, true, true, true, false, false, false, false]) 4 rfl (by kernel_rfl) rfl (List.Sublist.cons _ (List.Sublist.refl _)) rfl rfl (Yv.cutFrom (i + 1) el31 rfl rfl (by omega) (by omega)) ?_
        refine DOps.take (listed' := #[true, true, true, true, true, true, false, false, false]) 5 rfl (by kernel_rfl) rfl (List.Sublist.cons _ (List.Sublist.refl _)) rfl rfl (Yv.move rfl) ?_
        refine DOps.take (listed' := #[true, true, true, true, true, true, true, false, false]) 6 rfl (by kernel_rfl) rfl (List.Sublist.cons _ (List.Sublist.refl _)) rfl rfl (Yv.move rfl) ?_
        refine DOps.take (listed' := #[true, true, true, true, true, true, true, true, false]) 7 rfl (by kernel_rfl) rfl (List.Sublist.cons _ (List.Sublist.refl _)) rfl rfl (Yv.cutFrom i el31 rfl rfl rfl (by omega)) ?_
        refine DOps.only (listed' := #[true, true, true, true, true, true, true, true, true]) 8 rfl (by kernel_rfl) rfl rfl ?_
        refine One.copy (enc := Report.enc) (l := ((rs.take i ++ List.replicate (rs.length + 1 - i) default).take i ++ [r].take 1 ++ (rs.take i ++ List.replicate (rs.length + 1 - i) default).drop (i + 1))) (l2 := (rs.drop i)) (o := (i + 1)) (q := (rs.length - i)) (i := 0) (H' := [_, _]) rfl el31 Report.len (fun _ => rfl) rfl rfl (fun _ => cutA_at (by omega)) rfl (by omega) (Rd.cutF (xs := rs) Report.len (Rd.row (i := 1) rfl) rfl (by omega)) (by simp) (by omega) rfl ?_
        refine ⟨(List.Sublist.cons _ (List.Sublist.refl _)), ?_⟩
        refine DOps.done (by kernel_rfl) ?_
        refine Run.seq ?_
        refine Run.quiet (by intro h; cases h) ?_
        refine QOps.st rfl rfl (Yv.move rfl).yl ?_
        refine QOps.st rfl rfl (Yv.assign rfl).yl ?_
        refine QOps.nil ?_
        refine Run.ret ?_
        refine retQ.of (.inr rfl) rfl (.tmp rfl .nil) (fun w' hw' => ?_)
        have h9 := hw'.ent _ (List.mem_of_getElem? (i := 0) rfl)
        rw [ins_b (by omega) rfl] at h9
        exact ⟨_, _, rfl, hw'.bel, h9, fun g hg => (hw'.own _ (List.mem_of_getElem? (i := 0) rfl) g hg).symm.imp (fun h => Option.mem_toList.1 h) id⟩
      · try replace hc3 := of_decide_eq_false hc3
        refine Run.skip ?_
        refine Run.seq ?_
        refine Run.quiet (by intro h; cases h) ?_
        refine QOps.st rfl rfl (Yv.move rfl).yl ?_
        refine QOps.st rfl rfl (Yv.move rfl).yl ?_
        refine QOps.st rfl rfl (Yv.move rfl).yl ?_
        refine QOps.st rfl rfl (Yv.add rfl rfl (by omega)).yl ?_
        refine QOps.st rfl rfl (Yv.cutTo0 (rs.length + 1) el31 rfl rfl (by omega) (by omega)).yl ?_
        refine QOps.st rfl rfl (Yv.assign rfl).yl ?_
        refine QOps.nil ?_
        refine Run.seq ?_
        refine Run.seq ?_
        refine Run.ops ?_
        refine SOps.st rfl rfl (Yv.move rfl).yl ?_
        refine SOps.st rfl rfl (Yv.move rfl).yl ?_
        refine SOps.st rfl rfl (Yv.move rfl).yl ?_
        refine SOps.st rfl rfl (Yv.move rfl).yl ?_
        refine SOps.st rfl rfl (Yv.add rfl rfl (by omega)).yl ?_
        refine SOps.st rfl rfl (Yv.cutFrom (i + 1) el31 rfl rfl (by omega) (by omega)).yl ?_
        refine SOps.st rfl rfl (Yv.overlaps (tR := 4) (c2 := 0) (T1 := 25) (sz1 := 6) (vs := [r].flatMap Report.enc) (i := 0) Try.func65 (by kernel_rfl) (by kernel_rfl) (by kernel_rfl) (by kernel_rfl) el31 rfl rfl (cutA_at (by omega)) (fun w' hw' => row_bel hv hvb hw') rfl (by omega) (by decide) hne).yl ?_
        refine SOps.st rfl rfl (Yv.not rfl).yl ?_
        refine SOps.nil ?_
        refine Run.cond rfl (fun hc4 => ?_) (fun hc4 => ?_)
        · try replace hc4 := of_decide_eq_true hc4
          refine Run.seq ?_
          refine Run.draws (fun H => (H).eraseIdx 0) (m := 9) (listed := #[false, false, false, false, false, false, false, false, false]) (by kernel_rfl) rfl rfl ?_
          refine DOps.take (listed' := #[true, false, false, false, false, false, false, false, false]) 0 rfl (by kernel_rfl) rfl (List.nil_sublist _) rfl rfl (Yv.move rfl) ?_
          refine DOps.take (listed' := #[true, true, false, false, false, false, false, false, false]) 1 rfl (by kernel_rfl) rfl (List.nil_sublist _) rfl rfl (Yv.move rfl) ?_
          refine DOps.take (listed' := #[true, true, true, false, false, false, false, false, false]) 2 rfl (by kernel_rfl) rfl (List.nil_sublist _) rfl rfl (Yv.move rfl) ?_
          refine DOps.take (listed' := #[true, true, true, true, false, false, false, false, false]) 3 rfl (by kernel_rfl) rfl (List.nil_sublist _) rfl rfl (Yv.add rfl rfl (by omega)) ?_
          refine DOps.take (listed' := #[true, true, true, true, true, false, false, false, false]) 4 rfl (by kernel_rfl) rfl (List.nil_sublist _) rfl rfl (Yv.cutFrom (i + 1) el31 rfl rfl (by omega) (by omega)) ?_
          refine DOps.take (listed' := #[true, true, true, true, true, true, false, false, false]) 5 rfl (by kernel_rfl) rfl (List.nil_sublist _) rfl rfl (Yv.move rfl) ?_
          refine DOps.take (listed' := #[true, true, true, true, true, true, true, false, false]) 6 rfl (by kernel_rfl) rfl (List.nil_sublist _) rfl rfl (Yv.move rfl) ?_
          refine DOps.take (listed' := #[true, true, true, true, true, true, true, true, false]) 7 rfl (by kernel_rfl) rfl (List.nil_sublist _) rfl rfl (Yv.cutFrom i el31 rfl rfl rfl (by omega)) ?_
          refine DOps.only (listed' := #[true, true, true, true, true, true, true, true, true]) 8 rfl (by kernel_rfl) rfl rfl ?_
          refine One.copyG (enc := Report.enc) (l := rs) (l2 := rs.drop i) (o := i + 1) (m' := rs.length + 1) (q := rs.length - i) (i := 0) (H' := [_]) rfl el31 Report.len (fun _ => rfl) rfl rfl (cutA_at (by omega)) rfl (by omega) (by omega) (by omega) (by omega) (by omega) (by omega) (Rd.cutF (xs := rs) Report.len (Rd.row (i := 0) rfl) rfl (by omega)) (by simp) rfl ?_
          refine ⟨(List.nil_sublist _), ?_⟩
          refine DOps.done (by kernel_rfl) ?_
          refine Run.seq ?_
          refine Run.ops ?_
          refine SOps.st rfl rfl (Yv.move rfl).yl ?_
          refine SOps.st rfl rfl (Yv.move rfl).yl ?_
          refine SOps.st rfl rfl (Yv.cutFrom i el31 rfl rfl rfl (by omega)).yl ?_
          refine SOps.st rfl rfl (Yv.move rfl).yl ?_
          refine SOps.one rfl (One.copy (enc := Report.enc) (l := (rs.take (i + 1) ++ rs.drop i)) (l2 := [r]) (o := i) (q := 1) (i := 0) (H' := [_]) rfl el31 Report.len (fun _ => rfl) rfl rfl (fun _ => cutA_at (by omega)) rfl (by omega) (Rd.argN (sl_of_row hv) (fun _ => hvb)) rfl (by omega) rfl ?_)
          refine SOps.nil ?_
          refine Run.seq ?_
          refine Run.quiet (by intro h; cases h) ?_
          refine QOps.st rfl rfl (Yv.move rfl).yl ?_
          refine QOps.st rfl rfl (Yv.assign rfl).yl ?_
          refine QOps.nil ?_
          refine Run.ret ?_
          refine retQ.of (.inr rfl) rfl (.tmp rfl .nil) (fun w' hw' => ?_)
          have h9 := hw'.ent _ (List.mem_of_getElem? (i := 0) rfl)
          rw [ins_c (by omega)] at h9
          exact ⟨_, _, rfl, hw'.bel, h9, fun g hg => (hw'.own _ (List.mem_of_getElem? (i := 0) rfl) g hg).symm.imp (fun h => Option.mem_toList.1 h) id⟩
        · exfalso
          simp at hc4
end Go.Proofs.Ytlpgcbkialcjcaa
