/- Tugs: the reference's answers. Conditions: none. -/
import Derived.Test.YtkkmmbogeeopaaaMix8
namespace Go.Proofs.Ytkkmmbogeeopaaa
open Go.RowKit
set_option maxRecDepth 100000
section
variable {ts : List Tug} {js : List Job} {who P Fr So Eo : List Int} {i kf : Nat} {id : Int}
theorem run_step (hT : TugsIs ts) (hkf : kf < ts.length) (hid : (nth ts kf).id = nth who i) (hPl : P.length = ts.length) (hFl : Fr.length = ts.length) (hS : So = (dayTo ts js who i).starts) (hE : Eo = (dayTo ts js who i).ends)
    (hR : ∀ k, k < ts.length → nth P k = (dayTo ts js who i).pl (nth ts k).id ∧ nth Fr k = (dayTo ts js who i).tk (nth ts k).id) :
    So ++ [max (nth js i).ready (nth Fr kf + nearAbs (nth P kf) (nth js i).src)] = (dayTo ts js who (i + 1)).starts ∧ Eo ++ [nth (Fr.set kf (max (nth js i).ready (nth Fr kf + nearAbs (nth P kf) (nth js i).src) + nearAbs (nth js i).src (nth js i).dst)) kf] = (dayTo ts js who (i + 1)).ends ∧
    ∀ k, k < ts.length → nth (P.set kf (nth js i).dst) k = (dayTo ts js who (i + 1)).pl (nth ts k).id ∧ nth (Fr.set kf (max (nth js i).ready (nth Fr kf + nearAbs (nth P kf) (nth js i).src) + nearAbs (nth js i).src (nth js i).dst)) k = (dayTo ts js who (i + 1)).tk (nth ts k).id := by
  obtain ⟨h1, h2⟩ := hR kf hkf
  rw [hid] at h1 h2
  have hb : max (nth js i).ready (nth Fr kf + nearAbs (nth P kf) (nth js i).src) = beginAt js who (dayTo ts js who i) i := by
    unfold beginAt wayAt
    rw [h1, h2, Int.max_comm]
  rw [hb]
  refine ⟨by rw [hS]; rfl, by rw [hE, nth_set_self (by omega)]; rfl, fun k hk => ?_⟩
  rcases Nat.lt_trichotomy k kf with h3 | h3 | h3
  · have := hT.up k kf h3 hkf
    rw [nth_set_ne (by omega), nth_set_ne (by omega)]
    refine ⟨(hR k hk).1.trans (updI_ne (by omega)).symm, (hR k hk).2.trans (updI_ne (by omega)).symm⟩
  · subst h3
    rw [nth_set_self (by omega), nth_set_self (by omega), hid]
    exact ⟨updI_at.symm, updI_at.symm⟩
  · have := hT.up kf k h3 hk
    rw [nth_set_ne (by omega), nth_set_ne (by omega)]
    refine ⟨(hR k hk).1.trans (updI_ne (by omega)).symm, (hR k hk).2.trans (updI_ne (by omega)).symm⟩
theorem day_hit (h : nth who i = id) : (dayTo ts js who i).towed id + nearAbs (nth js i).src (nth js i).dst = (dayTo ts js who (i + 1)).towed id ∧ (dayTo ts js who i).others id + nearAbs ((dayTo ts js who i).pl id) (nth js i).src = (dayTo ts js who (i + 1)).others id ∧ (nth js i).dst = (dayTo ts js who (i + 1)).pl id := by
  subst h
  exact ⟨updI_at.symm, updI_at.symm, updI_at.symm⟩
theorem day_miss (h : ¬ nth who i = id) : (dayTo ts js who i).towed id = (dayTo ts js who (i + 1)).towed id ∧ (dayTo ts js who i).others id = (dayTo ts js who (i + 1)).others id ∧ (dayTo ts js who i).pl id = (dayTo ts js who (i + 1)).pl id :=
  ⟨(updI_ne (fun e => h e.symm)).symm, (updI_ne (fun e => h e.symm)).symm, (updI_ne (fun e => h e.symm)).symm⟩
end
theorem l17Run_spec {w : World} {A : Option Addr} {c : Nat} {ts : List Tug} {A2 : Option Addr} {c2 : Nat} {js : List Job} {A3 : Option Addr} {c3 : Nat} {who : List Int} (hs : Sl w 3 A ts.length c (ts.flatMap Tug.enc)) (hs2 : Sl w 5 A2 js.length c2 (js.flatMap Job.enc)) (hs3 : Sl w 1 A3 who.length c3 (who.flatMap intC)) (hT : TugsIs ts) (hJ : JobsIs js) (hwl : who.length ≤ js.length) (hW : ∀ i, i < who.length → takes ts (nth js i) (nth who i) = true) : Calls Try.prog 86 #[.slice A ts.length c, .slice A2 js.length c2, .slice A3 who.length c3] w
    (RetRow2 w 3 1 (dayTo ts js who who.length).starts.length ((dayTo ts js who who.length).starts.flatMap intC) 3 1 (dayTo ts js who who.length).ends.length ((dayTo ts js who who.length).ends.flatMap intC) (fun v v2 => .tuple #[v, v2])) := by
  have hjl := hJ.len
  have htl := hT.len
  refine calls_of_run (vs := [_, _, _]) (L := [(0, _), (1, _), (2, _)]) (n := 108) (F := []) (H := []) Try.func86 rfl rfl rfl rfl (HOk.start _) ?_
  refine Run.seq ?_
  refine Run.quiet (by intro h; cases h) ?_
  refine QOps.st rfl rfl (Yv.assign rfl).yl ?_
  refine QOps.st rfl rfl (Yv.assign rfl).yl ?_
  refine QOps.nil ?_
  refine Run.seq ?_
  refine Run.ops ?_
  refine SOps.one rfl (One.buildSliceG (pv := []) (cs := []) (fun _ => []) rfl el43 .nil rfl rfl (by kernel_rfl) rfl rfl (fun b1 => ?_))
  refine SOps.one rfl (One.buildSliceG (pv := []) (cs := []) (fun _ => []) rfl el43 .nil rfl rfl (by kernel_rfl) rfl rfl (fun b2 => ?_))
  refine SOps.st rfl rfl (Yv.assign rfl).yl ?_
  refine SOps.st rfl rfl (Yv.assign rfl).yl ?_
  refine SOps.nil ?_
  refine Run.seq ?_
  refine Run.draws (fun H => H) (m := 8) (listed := #[false, false, false, false, false, false, false, false]) (by kernel_rfl) rfl rfl ?_
  refine DOps.take (listed' := #[true, false, false, false, false, false, false, false]) 0 rfl (by kernel_rfl) rfl (List.Sublist.refl _) rfl rfl (Yv.move rfl) ?_
  refine DOps.take (listed' := #[true, true, false, false, false, false, false, false]) 1 rfl (by kernel_rfl) rfl (List.Sublist.refl _) rfl rfl (Yv.lenS el41s rfl) ?_
  refine DOps.take (listed' := #[true, true, false, true, false, false, false, false]) 3 rfl (by kernel_rfl) rfl (List.Sublist.refl _) rfl rfl (Yv.move rfl) ?_
  refine DOps.take (listed' := #[true, true, false, true, true, false, false, false]) 4 rfl (by kernel_rfl) rfl (List.Sublist.refl _) rfl rfl (Yv.lenS el41s rfl) ?_
  refine DOps.fork2 (l1 := #[true, true, true, true, true, false, false, false]) (l2 := #[true, true, false, true, true, true, false, false]) 2 5 rfl rfl (by kernel_rfl) rfl rfl rfl rfl ?_ ?_
  ·
    refine One.make (enc := intC) (m := ts.length) (0 : Int) rfl el43 zero3 rfl intC_len (by decide) rfl rfl (by omega) (by omega) (fun b3 => ?_)
    refine ⟨(List.Sublist.cons _ (List.Sublist.refl _)), ?_⟩
    refine DOps.take (listed' := #[true, true, true, true, true, false, true, false]) 6 rfl (by kernel_rfl) rfl (List.Sublist.cons _ (List.Sublist.refl _)) rfl rfl (Yv.assign rfl) ?_
    refine DOps.only (listed' := #[true, true, true, true, true, true, true, false]) 5 rfl (by kernel_rfl) rfl rfl ?_
    refine One.make (enc := intC) (m := ts.length) (0 : Int) rfl el43 zero3 rfl intC_len (by decide) rfl rfl (by omega) (by omega) (fun b4 => ?_)
    refine ⟨(List.Sublist.cons _ (List.Sublist.cons _ (List.Sublist.refl _))), ?_⟩
    refine DOps.take (listed' := #[true, true, true, true, true, true, true, true]) 7 rfl (by kernel_rfl) rfl (List.Sublist.cons _ (List.Sublist.cons _ (List.Sublist.refl _))) rfl rfl (Yv.assign rfl) ?_
    refine DOps.done (by kernel_rfl) ?_
    refine Run.seq ?_
    refine Run.seq ?_
    refine Run.quiet (by intro h; cases h) ?_
    refine QOps.st rfl rfl (Yv.assign rfl).yl ?_
    refine QOps.nil ?_
    refine Run.block ?_
    refine Run.loop (S := Nat × List Int) (fun s => match s with | (k, P) => k ≤ ts.length ∧ P.length = ts.length ∧ ∀ i, i < k → nth P i = (nth ts i).place) (fun s => match s with | (k, P) => [(0, .slice A ts.length c), (1, .slice A2 js.length c2), (2, .slice A3 who.length c3), (8, .slice (some ⟨b1, 0, none⟩) 0 0), (9, .slice (some ⟨b2, 0, none⟩) 0 0), (10, .slice (some ⟨b3, 0, none⟩) ts.length ts.length), (11, .slice (some ⟨b4, 0, none⟩) ts.length ts.length), (12, .int .i64 (k : Int))]) (fun s => match s with | (k, P) => [.row (some ⟨b4, 0, none⟩) ts.length 3 1 ts.length ((List.replicate ts.length (0 : Int)).flatMap intC), .row (some ⟨b3, 0, none⟩) ts.length 3 1 ts.length (P.flatMap intC), .row (some ⟨b2, 0, none⟩) 0 3 1 ([] : List Int).length (([] : List Int).flatMap intC), .row (some ⟨b1, 0, none⟩) 0 3 1 ([] : List Int).length (([] : List Int).flatMap intC)]) (fun s => match s with | (k, P) => ts.length - k) (0, List.replicate ts.length 0) ?_ (SubE.cons rfl (SubE.cons rfl (SubE.cons rfl (SubE.cons rfl (SubE.cons rfl (SubE.cons rfl (SubE.cons rfl (SubE.cons rfl (SubE.nil _))))))))) (List.Sublist.refl _) ?_
    · exact ⟨Nat.zero_le _, by simp, fun i hi => by omega⟩
    · rintro ⟨k, P⟩ ⟨hk, hPl, hP⟩
      show Run _ _ _ _ _ [(0, .slice A ts.length c), (1, .slice A2 js.length c2), (2, .slice A3 who.length c3), (8, .slice (some ⟨b1, 0, none⟩) 0 0), (9, .slice (some ⟨b2, 0, none⟩) 0 0), (10, .slice (some ⟨b3, 0, none⟩) ts.length ts.length), (11, .slice (some ⟨b4, 0, none⟩) ts.length ts.length), (12, .int .i64 (k : Int))] [.row (some ⟨b4, 0, none⟩) ts.length 3 1 ts.length ((List.replicate ts.length (0 : Int)).flatMap intC), .row (some ⟨b3, 0, none⟩) ts.length 3 1 ts.length (P.flatMap intC), .row (some ⟨b2, 0, none⟩) 0 3 1 ([] : List Int).length (([] : List Int).flatMap intC), .row (some ⟨b1, 0, none⟩) 0 3 1 ([] : List Int).length (([] : List Int).flatMap intC)] _
      refine Run.seq ?_
      refine Run.seq ?_
      refine Run.quiet (by intro h; cases h) ?_
      refine QOps.st rfl rfl (Yv.move rfl).yl ?_
      refine QOps.st rfl rfl (Yv.move rfl).yl ?_
      refine QOps.st rfl rfl (Yv.lenS el41s rfl).yl ?_
      refine QOps.st rfl rfl (Yv.lss rfl rfl).yl ?_
      refine QOps.nil ?_
      refine Run.cond rfl (fun hc1 => ?_) (fun hc1 => ?_)
      · try replace hc1 := of_decide_eq_true hc1
        refine Run.skip ?_
        refine Run.seq ?_
        refine Run.block ?_
        refine Run.ops ?_
        refine SOps.st rfl rfl (Yv.move rfl).yl ?_
        refine SOps.st rfl rfl (Yv.move rfl).yl ?_
        refine SOps.st rfl rfl (Yv.move rfl).yl ?_
        refine SOps.st rfl rfl (Yv.move rfl).yl ?_
        refine SOps.st rfl rfl (Yv.indexAddr k el41 rfl rfl rfl (Rd.arg hs) (by omega)).yl ?_
        refine SOps.st rfl rfl (Yv.fieldAddr fld49_1 rfl).yl ?_
        refine SOps.st rfl rfl (Yv.loadF lay3 rfl Tug.len (Rd.arg hs) (by first | omega | (simp only [List.length_set]; omega)) (by decide) rfl).yl ?_
        refine SOps.st rfl rfl (Yv.indexAddr k el43 rfl rfl rfl (Rd.row (i := 1) rfl) (by omega)).yl ?_
        refine SOps.one rfl (One.storeE (i := 1) (k := k) (f := 0) (H' := [_, _, _, _]) (e := (nth ts k).place) lay3 rfl rfl rfl intC_len rfl (by decide) rfl rfl rfl hPl (by omega) rfl ?_)
        refine SOps.nil ?_
        refine Run.quiet (by intro h; cases h) ?_
        refine QOps.st rfl rfl (Yv.move rfl).yl ?_
        refine QOps.st rfl rfl (Yv.succN rfl rfl (by omega)).yl ?_
        refine QOps.st rfl rfl (Yv.assign rfl).yl ?_
        refine QOps.nil ?_
        refine ⟨(k + 1, _), ?_, ?_, (SubE.cons rfl (SubE.cons rfl (SubE.cons rfl (SubE.cons rfl (SubE.cons rfl (SubE.cons rfl (SubE.cons rfl (SubE.cons rfl (SubE.nil _))))))))), (List.Sublist.refl _)⟩
        · exact ⟨by omega, by simpa using hPl, all_succ (fun i hi => by rw [nth_set_ne (by omega)]; exact hP i hi) (nth_set_self (by omega))⟩
        · first | omega | (dsimp only; omega)
      · try replace hc1 := of_decide_eq_false hc1
        obtain rfl : k = ts.length := by omega
        refine Run.exit ?_
        refine Run.seq ?_
        refine Run.seq ?_
        refine Run.quiet (by intro h; cases h) ?_
        refine QOps.st rfl rfl (Yv.assign rfl).yl ?_
        refine QOps.nil ?_
        refine Run.block ?_
        refine Run.loop (S := Nat × List Int × List Int × List Int × List Int × (Option Addr × Nat) × Option Addr × Nat) (fun s => match s with | (i, P, Fr, So, Eo, (A4, c4), (A5, c5)) => i ≤ who.length ∧ P.length = ts.length ∧ Fr.length = ts.length ∧ So = (dayTo ts js who i).starts ∧ Eo = (dayTo ts js who i).ends ∧ ∀ k, k < ts.length → nth P k = (dayTo ts js who i).pl (nth ts k).id ∧ nth Fr k = (dayTo ts js who i).tk (nth ts k).id) (fun s => match s with | (i, P, Fr, So, Eo, (A4, c4), (A5, c5)) => [(0, .slice A ts.length c), (1, .slice A2 js.length c2), (2, .slice A3 who.length c3), (8, .slice A4 So.length c4), (9, .slice A5 Eo.length c5), (10, .slice (some ⟨b3, 0, none⟩) ts.length ts.length), (11, .slice (some ⟨b4, 0, none⟩) ts.length ts.length), (13, .int .i64 (i : Int))]) (fun s => match s with | (i, P, Fr, So, Eo, (A4, c4), (A5, c5)) => [.row (some ⟨b4, 0, none⟩) ts.length 3 1 ts.length (Fr.flatMap intC), .row (some ⟨b3, 0, none⟩) ts.length 3 1 ts.length (P.flatMap intC), .row A5 c5 3 1 Eo.length (Eo.flatMap intC), .row A4 c4 3 1 So.length (So.flatMap intC)]) (fun s => match s with | (i, P, Fr, So, Eo, (A4, c4), (A5, c5)) => who.length - i) (0, P, List.replicate ts.length 0, [], [], (some ⟨b1, 0, none⟩, 0), (some ⟨b2, 0, none⟩, 0)) ?_ (SubE.cons rfl (SubE.cons rfl (SubE.cons rfl (SubE.cons rfl (SubE.cons rfl (SubE.cons rfl (SubE.cons rfl (SubE.cons rfl (SubE.nil _))))))))) (List.Sublist.refl _) ?_
        · exact ⟨Nat.zero_le _, hPl, by simp, rfl, rfl, fun k hk => ⟨(hP k hk).trans (placesTo_at hT (Nat.le_refl _) hk).symm, by simp [nth, hk, dayTo]⟩⟩
        · rintro ⟨i, P, Fr, So, Eo, ⟨A4, c4⟩, A5, c5⟩ ⟨hi, hPl, hFl, hS, hE, hR⟩
          show Run _ _ _ _ _ [(0, .slice A ts.length c), (1, .slice A2 js.length c2), (2, .slice A3 who.length c3), (8, .slice A4 So.length c4), (9, .slice A5 Eo.length c5), (10, .slice (some ⟨b3, 0, none⟩) ts.length ts.length), (11, .slice (some ⟨b4, 0, none⟩) ts.length ts.length), (13, .int .i64 (i : Int))] [.row (some ⟨b4, 0, none⟩) ts.length 3 1 ts.length (Fr.flatMap intC), .row (some ⟨b3, 0, none⟩) ts.length 3 1 ts.length (P.flatMap intC), .row A5 c5 3 1 Eo.length (Eo.flatMap intC), .row A4 c4 3 1 So.length (So.flatMap intC)] _
          refine Run.seq ?_
          refine Run.seq ?_
          refine Run.quiet (by intro h; cases h) ?_
          refine QOps.st rfl rfl (Yv.move rfl).yl ?_
          refine QOps.st rfl rfl (Yv.move rfl).yl ?_
          refine QOps.st rfl rfl (Yv.lenS el43s rfl).yl ?_
          refine QOps.st rfl rfl (Yv.lss rfl rfl).yl ?_
          refine QOps.nil ?_
          refine Run.cond rfl (fun hc2 => ?_) (fun hc2 => ?_)
          · try replace hc2 := of_decide_eq_true hc2
            obtain ⟨kf, hf1, hf2, hf3, hf4⟩ := takes_at (hW i (by omega))
            have hfi : findI ts (nth who i) = (kf : Int) := by unfold findI; rw [hf1]
            have hji := hJ.each i (by omega)
            have hin := day_in (who := who) hT hJ (show i ≤ js.length by omega)
            have hpl := hin.pl (nth ts kf).id
            have htk := hin.tk (nth ts kf).id
            obtain ⟨hr1, hr2⟩ := hR kf hf2
            rw [← hr1] at hpl
            rw [← hr2] at htk
            have hna : 0 ≤ nearAbs (nth P kf) (nth js i).src := nearAbs_nonneg
            have hnb : nearAbs (nth P kf) (nth js i).src ≤ 600 := nearAbs_in hpl hji.1
            have hnc : 0 ≤ nearAbs (nth js i).src (nth js i).dst := nearAbs_nonneg
            have hnd : nearAbs (nth js i).src (nth js i).dst ≤ 600 := nearAbs_in hji.1 hji.2.1
            have hsl : So.length ≤ 5 := by rw [hS, starts_len]; omega
            have hel : Eo.length ≤ 5 := by rw [hE, ends_len]; omega
            obtain ⟨q1, q2, q3⟩ := run_step hT hf2 hf3 hPl hFl hS hE hR
            refine Run.skip ?_
            refine Run.seq ?_
            refine Run.block ?_
            refine Run.seq ?_
            refine Run.quiet (by intro h; cases h) ?_
            refine QOps.st rfl rfl (Yv.move rfl).yl ?_
            refine QOps.st rfl rfl (Yv.move rfl).yl ?_
            refine QOps.st rfl rfl (Yv.move rfl).yl ?_
            refine QOps.st rfl rfl (Yv.indexAddr i el43 rfl rfl rfl (Rd.arg hs3) (by omega)).yl ?_
            refine QOps.st rfl rfl (Yv.loadE lay3 rfl intC_len (Rd.arg hs3) (by first | omega | (simp only [List.length_set]; omega)) rfl).yl ?_
            refine QOps.st rfl rfl (Yl.call callable68 (.cons rfl (.cons rfl (.nil))) (fun w' hw' => l17Find_spec ((Rd.arg hs) w' hw'))) ?_
            refine QOps.st rfl rfl (Yv.assign rfl).yl ?_
            refine QOps.nil ?_
            refine Run.seq ?_
            refine Run.quiet (fun _ => ⟨by kernel_rfl, by kernel_rfl⟩) ?_
            refine QOps.st rfl rfl (Yv.move rfl).yl ?_
            refine QOps.st rfl rfl (Yv.move rfl).yl ?_
            refine QOps.st rfl rfl (Yv.indexAddr i el42 rfl rfl rfl (Rd.arg hs2) (by omega)).yl ?_
            refine QOps.st rfl rfl (Yv.fieldAddr fld51_4 rfl).yl ?_
            refine QOps.st rfl rfl (Yv.loadF lay3 rfl Job.len (Rd.arg hs2) (by first | omega | (simp only [List.length_set]; omega)) (by decide) rfl).yl ?_
            refine QOps.st rfl rfl (Yv.move rfl).yl ?_
            refine QOps.st rfl rfl (Yv.move rfl).yl ?_
            refine QOps.st rfl rfl (Yv.indexAddr kf el43 rfl rfl (by omega) (Rd.row (i := 0) rfl) (by omega)).yl ?_
            refine QOps.st rfl rfl (Yv.loadE lay3 rfl intC_len (Rd.row (i := 0) rfl) (by first | omega | (simp only [List.length_set]; omega)) rfl).yl ?_
            refine QOps.st rfl rfl (Yv.move rfl).yl ?_
            refine QOps.st rfl rfl (Yv.move rfl).yl ?_
            refine QOps.st rfl rfl (Yv.indexAddr kf el43 rfl rfl (by omega) (Rd.row (i := 1) rfl) (by omega)).yl ?_
            refine QOps.st rfl rfl (Yv.loadE lay3 rfl intC_len (Rd.row (i := 1) rfl) (by first | omega | (simp only [List.length_set]; omega)) rfl).yl ?_
            refine QOps.st rfl rfl (Yv.move rfl).yl ?_
            refine QOps.st rfl rfl (Yv.move rfl).yl ?_
            refine QOps.st rfl rfl (Yv.indexAddr i el42 rfl rfl rfl (Rd.arg hs2) (by omega)).yl ?_
            refine QOps.st rfl rfl (Yv.fieldAddr fld51_1 rfl).yl ?_
            refine QOps.st rfl rfl (Yv.loadF lay3 rfl Job.len (Rd.arg hs2) (by first | omega | (simp only [List.length_set]; omega)) (by decide) rfl).yl ?_
            refine QOps.st rfl rfl (Yl.call callable70 (.cons rfl (.cons rfl (.nil))) (fun w' hw' => l17Far_spec (by omega) (by omega))) ?_
            refine QOps.st rfl rfl (Yv.add rfl rfl (by omega)).yl ?_
            refine QOps.st rfl rfl (Yl.call callable87 (.cons rfl (.cons rfl (.nil))) (fun w' hw' => l1Most_spec)) ?_
            refine QOps.st rfl rfl (Yv.assign rfl).yl ?_
            refine QOps.nil ?_
            refine Run.seq ?_
            refine Run.ops ?_
            refine SOps.st rfl rfl (Yv.move rfl).yl ?_
            refine SOps.st rfl rfl (Yv.move rfl).yl ?_
            refine SOps.one rfl (One.buildSliceG (pv := [(0, _)]) (cs := [_]) (fun l => match l with | [a0_0] => [a0_0] | _ => []) rfl el43 (.cons rfl (.nil)) rfl rfl (by kernel_rfl) rfl rfl (fun b5 => ?_))
            refine SOps.one rfl (One.append (enc := intC) (l := So) (l2 := [(max (nth js i).ready (nth Fr kf + nearAbs (nth P kf) (nth js i).src))]) (m' := (So ++ [(max (nth js i).ready (nth Fr kf + nearAbs (nth P kf) (nth js i).src))]).length) (i := 4) (H' := fun A c => [_, _, _, _, _]) rfl el43 zero3 rfl (by decide) rfl rfl rfl (Rd.row (i := 0) rfl) (fun _ => rfl) (by simp) (by simp; omega) (by simp; omega) (fun _ _ => rfl) (fun A1 c1 => ?_))
            refine SOps.st rfl rfl (Yv.assign rfl).yl ?_
            refine SOps.nil ?_
            refine Run.seq ?_
            refine Run.draws (fun H => (H).eraseIdx 1) (m := 17) (listed := #[false, false, false, false, false, false, false, false, false, false, false, false, false, false, false, false, false]) (by kernel_rfl) rfl rfl ?_
            refine DOps.take (listed' := #[true, false, false, false, false, false, false, false, false, false, false, false, false, false, false, false, false]) 0 rfl (by kernel_rfl) rfl (List.Sublist.cons_cons _ (List.Sublist.cons _ (List.Sublist.refl _))) rfl rfl (Yv.move rfl) ?_
            refine DOps.take (listed' := #[true, true, false, false, false, false, false, false, false, false, false, false, false, false, false, false, false]) 1 rfl (by kernel_rfl) rfl (List.Sublist.cons_cons _ (List.Sublist.cons _ (List.Sublist.refl _))) rfl rfl (Yv.move rfl) ?_
            refine DOps.take (listed' := #[true, true, true, false, false, false, false, false, false, false, false, false, false, false, false, false, false]) 2 rfl (by kernel_rfl) rfl (List.Sublist.cons_cons _ (List.Sublist.cons _ (List.Sublist.refl _))) rfl rfl (Yv.move rfl) ?_
            refine DOps.take (listed' := #[true, true, true, true, false, false, false, false, false, false, false, false, false, false, false, false, false]) 3 rfl (by kernel_rfl) rfl (List.Sublist.cons_cons _ (List.Sublist.cons _ (List.Sublist.refl _))) rfl rfl (Yv.move rfl) ?_
            refine DOps.take (listed' := #[true, true, true, true, true, false, false, false, false, false, false, false, false, false, false, false, false]) 4 rfl (by kernel_rfl) rfl (List.Sublist.cons_cons _ (List.Sublist.cons _ (List.Sublist.refl _))) rfl rfl (Yv.move rfl) ?_
            refine DOps.take (listed' := #[true, true, true, true, true, true, false, false, false, false, false, false, false, false, false, false, false]) 5 rfl (by kernel_rfl) rfl (List.Sublist.cons_cons _ (List.Sublist.cons _ (List.Sublist.refl _))) rfl rfl (Yv.indexAddr i el42 rfl rfl rfl (Rd.arg hs2) (by omega)) ?_
            refine DOps.take (listed' := #[true, true, true, true, true, true, true, false, false, false, false, false, false, false, false, false, false]) 6 rfl (by kernel_rfl) rfl (List.Sublist.cons_cons _ (List.Sublist.cons _ (List.Sublist.refl _))) rfl rfl (Yv.fieldAddr fld51_1 rfl) ?_
            refine DOps.take (listed' := #[true, true, true, true, true, true, true, true, false, false, false, false, false, false, false, false, false]) 7 rfl (by kernel_rfl) rfl (List.Sublist.cons_cons _ (List.Sublist.cons _ (List.Sublist.refl _))) rfl rfl (Yv.loadF lay3 rfl Job.len (Rd.arg hs2) (by first | omega | (simp only [List.length_set]; omega)) (by decide) rfl) ?_
            refine DOps.take (listed' := #[true, true, true, true, true, true, true, true, true, false, false, false, false, false, false, false, false]) 8 rfl (by kernel_rfl) rfl (List.Sublist.cons_cons _ (List.Sublist.cons _ (List.Sublist.refl _))) rfl rfl (Yv.move rfl) ?_
            refine DOps.take (listed' := #[true, true, true, true, true, true, true, true, true, true, false, false, false, false, false, false, false]) 9 rfl (by kernel_rfl) rfl (List.Sublist.cons_cons _ (List.Sublist.cons _ (List.Sublist.refl _))) rfl rfl (Yv.move rfl) ?_
            refine DOps.take (listed' := #[true, true, true, true, true, true, true, true, true, true, true, false, false, false, false, false, false]) 10 rfl (by kernel_rfl) rfl (List.Sublist.cons_cons _ (List.Sublist.cons _ (List.Sublist.refl _))) rfl rfl (Yv.indexAddr i el42 rfl rfl rfl (Rd.arg hs2) (by omega)) ?_
            refine DOps.take (listed' := #[true, true, true, true, true, true, true, true, true, true, true, true, false, false, false, false, false]) 11 rfl (by kernel_rfl) rfl (List.Sublist.cons_cons _ (List.Sublist.cons _ (List.Sublist.refl _))) rfl rfl (Yv.fieldAddr fld51_2 rfl) ?_
            refine DOps.take (listed' := #[true, true, true, true, true, true, true, true, true, true, true, true, true, false, false, false, false]) 12 rfl (by kernel_rfl) rfl (List.Sublist.cons_cons _ (List.Sublist.cons _ (List.Sublist.refl _))) rfl rfl (Yv.loadF lay3 rfl Job.len (Rd.arg hs2) (by first | omega | (simp only [List.length_set]; omega)) (by decide) rfl) ?_
            refine DOps.only (listed' := #[true, true, true, true, true, true, true, true, true, true, true, true, true, true, false, false, false]) 13 rfl (by kernel_rfl) rfl rfl ?_
            refine One.st rfl (Yl.call callable70 (.cons rfl (.cons rfl (.nil))) (fun w' hw' => l17Far_spec (by omega) (by omega))) ?_
            refine ⟨(List.Sublist.cons_cons _ (List.Sublist.cons _ (List.Sublist.refl _))), ?_⟩
            refine DOps.take (listed' := #[true, true, true, true, true, true, true, true, true, true, true, true, true, true, true, false, false]) 14 rfl (by kernel_rfl) rfl (List.Sublist.cons_cons _ (List.Sublist.cons _ (List.Sublist.refl _))) rfl rfl (Yv.add rfl rfl (by omega)) ?_
            refine DOps.only (listed' := #[true, true, true, true, true, true, true, true, true, true, true, true, true, true, true, true, false]) 15 rfl (by kernel_rfl) rfl rfl ?_
            refine One.st rfl (Yv.indexAddr kf el43 rfl rfl (by omega) (Rd.row (i := 1) rfl) (by omega)).yl ?_
            refine ⟨(List.Sublist.cons_cons _ (List.Sublist.cons _ (List.Sublist.refl _))), ?_⟩
            refine DOps.only (listed' := #[true, true, true, true, true, true, true, true, true, true, true, true, true, true, true, true, true]) 16 rfl (by kernel_rfl) rfl rfl ?_
            refine One.storeE (i := 1) (k := kf) (f := 0) (H' := [_, _, _, _, _]) (e := ((max (nth js i).ready (nth Fr kf + nearAbs (nth P kf) (nth js i).src)) + nearAbs (nth js i).src (nth js i).dst)) lay3 rfl rfl rfl intC_len rfl (by decide) rfl rfl rfl hFl (by omega) rfl ?_
            refine ⟨(List.Sublist.cons_cons _ (List.Sublist.cons _ (List.Sublist.refl _))), ?_⟩
            refine DOps.done (by kernel_rfl) ?_
            refine Run.seq ?_
            refine Run.ops ?_
            refine SOps.st rfl rfl (Yv.move rfl).yl ?_
            refine SOps.st rfl rfl (Yv.move rfl).yl ?_
            refine SOps.st rfl rfl (Yv.move rfl).yl ?_
            refine SOps.st rfl rfl (Yv.move rfl).yl ?_
            refine SOps.st rfl rfl (Yv.indexAddr i el42 rfl rfl rfl (Rd.arg hs2) (by omega)).yl ?_
            refine SOps.st rfl rfl (Yv.fieldAddr fld51_2 rfl).yl ?_
            refine SOps.st rfl rfl (Yv.loadF lay3 rfl Job.len (Rd.arg hs2) (by first | omega | (simp only [List.length_set]; omega)) (by decide) rfl).yl ?_
            refine SOps.st rfl rfl (Yv.indexAddr kf el43 rfl rfl (by omega) (Rd.row (i := 2) rfl) (by omega)).yl ?_
            refine SOps.one rfl (One.storeE (i := 2) (k := kf) (f := 0) (H' := [_, _, _, _, _]) (e := (nth js i).dst) lay3 rfl rfl rfl intC_len rfl (by decide) rfl rfl rfl hPl (by omega) rfl ?_)
            refine SOps.nil ?_
            refine Run.ops ?_
            refine SOps.st rfl rfl (Yv.move rfl).yl ?_
            refine SOps.st rfl rfl (Yv.move rfl).yl ?_
            refine SOps.st rfl rfl (Yv.move rfl).yl ?_
            refine SOps.st rfl rfl (Yv.indexAddr kf el43 rfl rfl (by omega) (Rd.row (i := 1) rfl) (by omega)).yl ?_
            refine SOps.st rfl rfl (Yv.loadE lay3 rfl intC_len (Rd.row (i := 1) rfl) (by first | omega | (simp only [List.length_set]; omega)) rfl).yl ?_
            refine SOps.one rfl (One.buildSliceG (pv := [(0, _)]) (cs := [_]) (fun l => match l with | [a0_0] => [a0_0] | _ => []) rfl el43 (.cons rfl (.nil)) rfl rfl (by kernel_rfl) rfl rfl (fun b6 => ?_))
            refine SOps.one rfl (One.append (enc := intC) (l := Eo) (l2 := [nth (Fr.set kf ((max (nth js i).ready (nth Fr kf + nearAbs (nth P kf) (nth js i).src)) + nearAbs (nth js i).src (nth js i).dst)) kf]) (m' := (Eo ++ [nth (Fr.set kf ((max (nth js i).ready (nth Fr kf + nearAbs (nth P kf) (nth js i).src)) + nearAbs (nth js i).src (nth js i).dst)) kf]).length) (i := 4) (H' := fun A c => [_, _, _, _, _, _]) rfl el43 zero3 rfl (by decide) rfl rfl rfl (Rd.row (i := 0) rfl) (fun _ => rfl) (by simp) (by simp; omega) (by simp; omega) (fun _ _ => rfl) (fun A2 c2 => ?_))
            refine SOps.st rfl rfl (Yv.assign rfl).yl ?_
            refine SOps.nil ?_
            refine Run.quiet (by intro h; cases h) ?_
            refine QOps.st rfl rfl (Yv.move rfl).yl ?_
            refine QOps.st rfl rfl (Yv.succN rfl rfl (by omega)).yl ?_
            refine QOps.st rfl rfl (Yv.assign rfl).yl ?_
            refine QOps.nil ?_
            refine ⟨(i + 1, _, _, _, _, (_, _), (_, _)), ?_, ?_, (SubE.cons rfl (SubE.cons rfl (SubE.cons rfl (SubE.cons rfl (SubE.cons rfl (SubE.cons rfl (SubE.cons rfl (SubE.cons rfl (SubE.nil _))))))))), (List.Sublist.cons _ (List.Sublist.cons _ (List.Sublist.refl _)))⟩
            · exact ⟨by omega, by simpa using hPl, by simpa using hFl, q1, q2, q3⟩
            · first | omega | (dsimp only; omega)
          · try replace hc2 := of_decide_eq_false hc2
            obtain rfl : i = who.length := by omega
            refine Run.exit ?_
            refine Run.seq ?_
            refine Run.quiet (by intro h; cases h) ?_
            refine QOps.st rfl rfl (Yv.move rfl).yl ?_
            refine QOps.st rfl rfl (Yv.move rfl).yl ?_
            refine QOps.st rfl rfl (Yv.assign rfl).yl ?_
            refine QOps.st rfl rfl (Yv.assign rfl).yl ?_
            refine QOps.nil ?_
            refine Run.ret ?_
            refine retQ.of (.inr rfl) rfl (.tmp rfl (.tmp rfl .nil)) (fun w' hw' => ?_)
            rw [← hS, ← hE]
            exact retRow2_own (i := 3) (j := 2) hw' rfl rfl rfl rfl
  ·
    refine One.make (enc := intC) (m := ts.length) (0 : Int) rfl el43 zero3 rfl intC_len (by decide) rfl rfl (by omega) (by omega) (fun b3 => ?_)
    refine ⟨(List.Sublist.cons _ (List.Sublist.refl _)), ?_⟩
    refine DOps.only (listed' := #[true, true, true, true, true, true, false, false]) 2 rfl (by kernel_rfl) rfl rfl ?_
    refine One.make (enc := intC) (m := ts.length) (0 : Int) rfl el43 zero3 rfl intC_len (by decide) rfl rfl (by omega) (by omega) (fun b4 => ?_)
    refine ⟨(List.Sublist.cons _ (List.Sublist.cons _ (List.Sublist.refl _))), ?_⟩
    refine DOps.take (listed' := #[true, true, true, true, true, true, true, false]) 6 rfl (by kernel_rfl) rfl (List.Sublist.cons _ (List.Sublist.cons _ (List.Sublist.refl _))) rfl rfl (Yv.assign rfl) ?_
    refine DOps.take (listed' := #[true, true, true, true, true, true, true, true]) 7 rfl (by kernel_rfl) rfl (List.Sublist.cons _ (List.Sublist.cons _ (List.Sublist.refl _))) rfl rfl (Yv.assign rfl) ?_
    refine DOps.done (by kernel_rfl) ?_
    refine Run.seq ?_
    refine Run.seq ?_
    refine Run.quiet (by intro h; cases h) ?_
    refine QOps.st rfl rfl (Yv.assign rfl).yl ?_
    refine QOps.nil ?_
    refine Run.block ?_
    refine Run.loop (S := Nat × List Int) (fun s => match s with | (k, P) => k ≤ ts.length ∧ P.length = ts.length ∧ ∀ i, i < k → nth P i = (nth ts i).place) (fun s => match s with | (k, P) => [(0, .slice A ts.length c), (1, .slice A2 js.length c2), (2, .slice A3 who.length c3), (8, .slice (some ⟨b1, 0, none⟩) 0 0), (9, .slice (some ⟨b2, 0, none⟩) 0 0), (10, .slice (some ⟨b4, 0, none⟩) ts.length ts.length), (11, .slice (some ⟨b3, 0, none⟩) ts.length ts.length), (12, .int .i64 (k : Int))]) (fun s => match s with | (k, P) => [.row (some ⟨b4, 0, none⟩) ts.length 3 1 ts.length (P.flatMap intC), .row (some ⟨b3, 0, none⟩) ts.length 3 1 ts.length ((List.replicate ts.length (0 : Int)).flatMap intC), .row (some ⟨b2, 0, none⟩) 0 3 1 ([] : List Int).length (([] : List Int).flatMap intC), .row (some ⟨b1, 0, none⟩) 0 3 1 ([] : List Int).length (([] : List Int).flatMap intC)]) (fun s => match s with | (k, P) => ts.length - k) (0, List.replicate ts.length 0) ?_ (SubE.cons rfl (SubE.cons rfl (SubE.cons rfl (SubE.cons rfl (SubE.cons rfl (SubE.cons rfl (SubE.cons rfl (SubE.cons rfl (SubE.nil _))))))))) (List.Sublist.refl _) ?_
    · exact ⟨Nat.zero_le _, by simp, fun i hi => by omega⟩
    · rintro ⟨k, P⟩ ⟨hk, hPl, hP⟩
      show Run _ _ _ _ _ [(0, .slice A ts.length c), (1, .slice A2 js.length c2), (2, .slice A3 who.length c3), (8, .slice (some ⟨b1, 0, none⟩) 0 0), (9, .slice (some ⟨b2, 0, none⟩) 0 0), (10, .slice (some ⟨b4, 0, none⟩) ts.length ts.length), (11, .slice (some ⟨b3, 0, none⟩) ts.length ts.length), (12, .int .i64 (k : Int))] [.row (some ⟨b4, 0, none⟩) ts.length 3 1 ts.length (P.flatMap intC), .row (some ⟨b3, 0, none⟩) ts.length 3 1 ts.length ((List.replicate ts.length (0 : Int)).flatMap intC), .row (some ⟨b2, 0, none⟩) 0 3 1 ([] : List Int).length (([] : List Int).flatMap intC), .row (some ⟨b1, 0, none⟩) 0 3 1 ([] : List Int).length (([] : List Int).flatMap intC)] _
      refine Run.seq ?_
      refine Run.seq ?_
      refine Run.quiet (by intro h; cases h) ?_
      refine QOps.st rfl rfl (Yv.move rfl).yl ?_
      refine QOps.st rfl rfl (Yv.move rfl).yl ?_
      refine QOps.st rfl rfl (Yv.lenS el41s rfl).yl ?_
      refine QOps.st rfl rfl (Yv.lss rfl rfl).yl ?_
      refine QOps.nil ?_
      refine Run.cond rfl (fun hc1 => ?_) (fun hc1 => ?_)
      · try replace hc1 := of_decide_eq_true hc1
        refine Run.skip ?_
        refine Run.seq ?_
        refine Run.block ?_
        refine Run.ops ?_
        refine SOps.st rfl rfl (Yv.move rfl).yl ?_
        refine SOps.st rfl rfl (Yv.move rfl).yl ?_
        refine SOps.st rfl rfl (Yv.move rfl).yl ?_
        refine SOps.st rfl rfl (Yv.move rfl).yl ?_
        refine SOps.st rfl rfl (Yv.indexAddr k el41 rfl rfl rfl (Rd.arg hs) (by omega)).yl ?_
        refine SOps.st rfl rfl (Yv.fieldAddr fld49_1 rfl).yl ?_
        refine SOps.st rfl rfl (Yv.loadF lay3 rfl Tug.len (Rd.arg hs) (by first | omega | (simp only [List.length_set]; omega)) (by decide) rfl).yl ?_
        refine SOps.st rfl rfl (Yv.indexAddr k el43 rfl rfl rfl (Rd.row (i := 0) rfl) (by omega)).yl ?_
        refine SOps.one rfl (One.storeE (i := 0) (k := k) (f := 0) (H' := [_, _, _, _]) (e := (nth ts k).place) lay3 rfl rfl rfl intC_len rfl (by decide) rfl rfl rfl hPl (by omega) rfl ?_)
        refine SOps.nil ?_
        refine Run.quiet (by intro h; cases h) ?_
        refine QOps.st rfl rfl (Yv.move rfl).yl ?_
        refine QOps.st rfl rfl (Yv.succN rfl rfl (by omega)).yl ?_
        refine QOps.st rfl rfl (Yv.assign rfl).yl ?_
        refine QOps.nil ?_
        refine ⟨(k + 1, _), ?_, ?_, (SubE.cons rfl (SubE.cons rfl (SubE.cons rfl (SubE.cons rfl (SubE.cons rfl (SubE.cons rfl (SubE.cons rfl (SubE.cons rfl (SubE.nil _))))))))), (List.Sublist.refl _)⟩
        · exact ⟨by omega, by simpa using hPl, all_succ (fun i hi => by rw [nth_set_ne (by omega)]; exact hP i hi) (nth_set_self (by omega))⟩
        · first | omega | (dsimp only; omega)
      · try replace hc1 := of_decide_eq_false hc1
        obtain rfl : k = ts.length := by omega
        refine Run.exit ?_
        refine Run.seq ?_
        refine Run.seq ?_
        refine Run.quiet (by intro h; cases h) ?_
        refine QOps.st rfl rfl (Yv.assign rfl).yl ?_
        refine QOps.nil ?_
        refine Run.block ?_
        refine Run.loop (S := Nat × List Int × List Int × List Int × List Int × (Option Addr × Nat) × Option Addr × Nat) (fun s => match s with | (i, P, Fr, So, Eo, (A4, c4), (A5, c5)) => i ≤ who.length ∧ P.length = ts.length ∧ Fr.length = ts.length ∧ So = (dayTo ts js who i).starts ∧ Eo = (dayTo ts js who i).ends ∧ ∀ k, k < ts.length → nth P k = (dayTo ts js who i).pl (nth ts k).id ∧ nth Fr k = (dayTo ts js who i).tk (nth ts k).id) (fun s => match s with | (i, P, Fr, So, Eo, (A4, c4), (A5, c5)) => [(0, .slice A ts.length c), (1, .slice A2 js.length c2), (2, .slice A3 who.length c3), (8, .slice A4 So.length c4), (9, .slice A5 Eo.length c5), (10, .slice (some ⟨b4, 0, none⟩) ts.length ts.length), (11, .slice (some ⟨b3, 0, none⟩) ts.length ts.length), (13, .int .i64 (i : Int))]) (fun s => match s with | (i, P, Fr, So, Eo, (A4, c4), (A5, c5)) => [.row (some ⟨b4, 0, none⟩) ts.length 3 1 ts.length (P.flatMap intC), .row (some ⟨b3, 0, none⟩) ts.length 3 1 ts.length (Fr.flatMap intC), .row A5 c5 3 1 Eo.length (Eo.flatMap intC), .row A4 c4 3 1 So.length (So.flatMap intC)]) (fun s => match s with | (i, P, Fr, So, Eo, (A4, c4), (A5, c5)) => who.length - i) (0, P, List.replicate ts.length 0, [], [], (some ⟨b1, 0, none⟩, 0), (some ⟨b2, 0, none⟩, 0)) ?_ (SubE.cons rfl (SubE.cons rfl (SubE.cons rfl (SubE.cons rfl (SubE.cons rfl (SubE.cons rfl (SubE.cons rfl (SubE.cons rfl (SubE.nil _))))))))) (List.Sublist.refl _) ?_
        · exact ⟨Nat.zero_le _, hPl, by simp, rfl, rfl, fun k hk => ⟨(hP k hk).trans (placesTo_at hT (Nat.le_refl _) hk).symm, by simp [nth, hk, dayTo]⟩⟩
        · rintro ⟨i, P, Fr, So, Eo, ⟨A4, c4⟩, A5, c5⟩ ⟨hi, hPl, hFl, hS, hE, hR⟩
          show Run _ _ _ _ _ [(0, .slice A ts.length c), (1, .slice A2 js.length c2), (2, .slice A3 who.length c3), (8, .slice A4 So.length c4), (9, .slice A5 Eo.length c5), (10, .slice (some ⟨b4, 0, none⟩) ts.length ts.length), (11, .slice (some ⟨b3, 0, none⟩) ts.length ts.length), (13, .int .i64 (i : Int))] [.row (some ⟨b4, 0, none⟩) ts.length 3 1 ts.length (P.flatMap intC), .row (some ⟨b3, 0, none⟩) ts.length 3 1 ts.length (Fr.flatMap intC), .row A5 c5 3 1 Eo.length (Eo.flatMap intC), .row A4 c4 3 1 So.length (So.flatMap intC)] _
          refine Run.seq ?_
          refine Run.seq ?_
          refine Run.quiet (by intro h; cases h) ?_
          refine QOps.st rfl rfl (Yv.move rfl).yl ?_
          refine QOps.st rfl rfl (Yv.move rfl).yl ?_
          refine QOps.st rfl rfl (Yv.lenS el43s rfl).yl ?_
          refine QOps.st rfl rfl (Yv.lss rfl rfl).yl ?_
          refine QOps.nil ?_
          refine Run.cond rfl (fun hc2 => ?_) (fun hc2 => ?_)
          · try replace hc2 := of_decide_eq_true hc2
            obtain ⟨kf, hf1, hf2, hf3, hf4⟩ := takes_at (hW i (by omega))
            have hfi : findI ts (nth who i) = (kf : Int) := by unfold findI; rw [hf1]
            have hji := hJ.each i (by omega)
            have hin := day_in (who := who) hT hJ (show i ≤ js.length by omega)
            have hpl := hin.pl (nth ts kf).id
            have htk := hin.tk (nth ts kf).id
            obtain ⟨hr1, hr2⟩ := hR kf hf2
            rw [← hr1] at hpl
            rw [← hr2] at htk
            have hna : 0 ≤ nearAbs (nth P kf) (nth js i).src := nearAbs_nonneg
            have hnb : nearAbs (nth P kf) (nth js i).src ≤ 600 := nearAbs_in hpl hji.1
            have hnc : 0 ≤ nearAbs (nth js i).src (nth js i).dst := nearAbs_nonneg
            have hnd : nearAbs (nth js i).src (nth js i).dst ≤ 600 := nearAbs_in hji.1 hji.2.1
            have hsl : So.length ≤ 5 := by rw [hS, starts_len]; omega
            have hel : Eo.length ≤ 5 := by rw [hE, ends_len]; omega
            obtain ⟨q1, q2, q3⟩ := run_step hT hf2 hf3 hPl hFl hS hE hR
            refine Run.skip ?_
            refine Run.seq ?_
            refine Run.block ?_
            refine Run.seq ?_
            refine Run.quiet (by intro h; cases h) ?_
            refine QOps.st rfl rfl (Yv.move rfl).yl ?_
            refine QOps.st rfl rfl (Yv.move rfl).yl ?_
            refine QOps.st rfl rfl (Yv.move rfl).yl ?_
            refine QOps.st rfl rfl (Yv.indexAddr i el43 rfl rfl rfl (Rd.arg hs3) (by omega)).yl ?_
            refine QOps.st rfl rfl (Yv.loadE lay3 rfl intC_len (Rd.arg hs3) (by first | omega | (simp only [List.length_set]; omega)) rfl).yl ?_
            refine QOps.st rfl rfl (Yl.call callable68 (.cons rfl (.cons rfl (.nil))) (fun w' hw' => l17Find_spec ((Rd.arg hs) w' hw'))) ?_
            refine QOps.st rfl rfl (Yv.assign rfl).yl ?_
            refine QOps.nil ?_
            refine Run.seq ?_
            refine Run.quiet (fun _ => ⟨by kernel_rfl, by kernel_rfl⟩) ?_
            refine QOps.st rfl rfl (Yv.move rfl).yl ?_
            refine QOps.st rfl rfl (Yv.move rfl).yl ?_
            refine QOps.st rfl rfl (Yv.indexAddr i el42 rfl rfl rfl (Rd.arg hs2) (by omega)).yl ?_
            refine QOps.st rfl rfl (Yv.fieldAddr fld51_4 rfl).yl ?_
            refine QOps.st rfl rfl (Yv.loadF lay3 rfl Job.len (Rd.arg hs2) (by first | omega | (simp only [List.length_set]; omega)) (by decide) rfl).yl ?_
            refine QOps.st rfl rfl (Yv.move rfl).yl ?_
            refine QOps.st rfl rfl (Yv.move rfl).yl ?_
            refine QOps.st rfl rfl (Yv.indexAddr kf el43 rfl rfl (by omega) (Rd.row (i := 1) rfl) (by omega)).yl ?_
            refine QOps.st rfl rfl (Yv.loadE lay3 rfl intC_len (Rd.row (i := 1) rfl) (by first | omega | (simp only [List.length_set]; omega)) rfl).yl ?_
            refine QOps.st rfl rfl (Yv.move rfl).yl ?_
            refine QOps.st rfl rfl (Yv.move rfl).yl ?_
            refine QOps.st rfl rfl (Yv.indexAddr kf el43 rfl rfl (by omega) (Rd.row (i := 0) rfl) (by omega)).yl ?_
            refine QOps.st rfl rfl (Yv.loadE lay3 rfl intC_len (Rd.row (i := 0) rfl) (by first | omega | (simp only [List.length_set]; omega)) rfl).yl ?_
            refine QOps.st rfl rfl (Yv.move rfl).yl ?_
            refine QOps.st rfl rfl (Yv.move rfl).yl ?_
            refine QOps.st rfl rfl (Yv.indexAddr i el42 rfl rfl rfl (Rd.arg hs2) (by omega)).yl ?_
            refine QOps.st rfl rfl (Yv.fieldAddr fld51_1 rfl).yl ?_
            refine QOps.st rfl rfl (Yv.loadF lay3 rfl Job.len (Rd.arg hs2) (by first | omega | (simp only [List.length_set]; omega)) (by decide) rfl).yl ?_
            refine QOps.st rfl rfl (Yl.call callable70 (.cons rfl (.cons rfl (.nil))) (fun w' hw' => l17Far_spec (by omega) (by omega))) ?_
            refine QOps.st rfl rfl (Yv.add rfl rfl (by omega)).yl ?_
            refine QOps.st rfl rfl (Yl.call callable87 (.cons rfl (.cons rfl (.nil))) (fun w' hw' => l1Most_spec)) ?_
            refine QOps.st rfl rfl (Yv.assign rfl).yl ?_
            refine QOps.nil ?_
            refine Run.seq ?_
            refine Run.ops ?_
            refine SOps.st rfl rfl (Yv.move rfl).yl ?_
            refine SOps.st rfl rfl (Yv.move rfl).yl ?_
            refine SOps.one rfl (One.buildSliceG (pv := [(0, _)]) (cs := [_]) (fun l => match l with | [a0_0] => [a0_0] | _ => []) rfl el43 (.cons rfl (.nil)) rfl rfl (by kernel_rfl) rfl rfl (fun b5 => ?_))
            refine SOps.one rfl (One.append (enc := intC) (l := So) (l2 := [(max (nth js i).ready (nth Fr kf + nearAbs (nth P kf) (nth js i).src))]) (m' := (So ++ [(max (nth js i).ready (nth Fr kf + nearAbs (nth P kf) (nth js i).src))]).length) (i := 4) (H' := fun A c => [_, _, _, _, _]) rfl el43 zero3 rfl (by decide) rfl rfl rfl (Rd.row (i := 0) rfl) (fun _ => rfl) (by simp) (by simp; omega) (by simp; omega) (fun _ _ => rfl) (fun A1 c1 => ?_))
            refine SOps.st rfl rfl (Yv.assign rfl).yl ?_
            refine SOps.nil ?_
            refine Run.seq ?_
            refine Run.draws (fun H => (H).eraseIdx 2) (m := 17) (listed := #[false, false, false, false, false, false, false, false, false, false, false, false, false, false, false, false, false]) (by kernel_rfl) rfl rfl ?_
            refine DOps.take (listed' := #[true, false, false, false, false, false, false, false, false, false, false, false, false, false, false, false, false]) 0 rfl (by kernel_rfl) rfl (List.Sublist.cons_cons _ (List.Sublist.cons_cons _ (List.Sublist.cons _ (List.Sublist.refl _)))) rfl rfl (Yv.move rfl) ?_
            refine DOps.take (listed' := #[true, true, false, false, false, false, false, false, false, false, false, false, false, false, false, false, false]) 1 rfl (by kernel_rfl) rfl (List.Sublist.cons_cons _ (List.Sublist.cons_cons _ (List.Sublist.cons _ (List.Sublist.refl _)))) rfl rfl (Yv.move rfl) ?_
            refine DOps.take (listed' := #[true, true, true, false, false, false, false, false, false, false, false, false, false, false, false, false, false]) 2 rfl (by kernel_rfl) rfl (List.Sublist.cons_cons _ (List.Sublist.cons_cons _ (List.Sublist.cons _ (List.Sublist.refl _)))) rfl rfl (Yv.move rfl) ?_
            refine DOps.take (listed' := #[true, true, true, true, false, false, false, false, false, false, false, false, false, false, false, false, false]) 3 rfl (by kernel_rfl) rfl (List.Sublist.cons_cons _ (List.Sublist.cons_cons _ (List.Sublist.cons _ (List.Sublist.refl _)))) rfl rfl (Yv.move rfl) ?_
            refine DOps.take (listed' := #[true, true, true, true, true, false, false, false, false, false, false, false, false, false, false, false, false]) 4 rfl (by kernel_rfl) rfl (List.Sublist.cons_cons _ (List.Sublist.cons_cons _ (List.Sublist.cons _ (List.Sublist.refl _)))) rfl rfl (Yv.move rfl) ?_
            refine DOps.take (listed' := #[true, true, true, true, true, true, false, false, false, false, false, false, false, false, false, false, false]) 5 rfl (by kernel_rfl) rfl (List.Sublist.cons_cons _ (List.Sublist.cons_cons _ (List.Sublist.cons _ (List.Sublist.refl _)))) rfl rfl (Yv.indexAddr i el42 rfl rfl rfl (Rd.arg hs2) (by omega)) ?_
            refine DOps.take (listed' := #[true, true, true, true, true, true, true, false, false, false, false, false, false, false, false, false, false]) 6 rfl (by kernel_rfl) rfl (List.Sublist.cons_cons _ (List.Sublist.cons_cons _ (List.Sublist.cons _ (List.Sublist.refl _)))) rfl rfl (Yv.fieldAddr fld51_1 rfl) ?_
            refine DOps.take (listed' := #[true, true, true, true, true, true, true, true, false, false, false, false, false, false, false, false, false]) 7 rfl (by kernel_rfl) rfl (List.Sublist.cons_cons _ (List.Sublist.cons_cons _ (List.Sublist.cons _ (List.Sublist.refl _)))) rfl rfl (Yv.loadF lay3 rfl Job.len (Rd.arg hs2) (by first | omega | (simp only [List.length_set]; omega)) (by decide) rfl) ?_
            refine DOps.take (listed' := #[true, true, true, true, true, true, true, true, true, false, false, false, false, false, false, false, false]) 8 rfl (by kernel_rfl) rfl (List.Sublist.cons_cons _ (List.Sublist.cons_cons _ (List.Sublist.cons _ (List.Sublist.refl _)))) rfl rfl (Yv.move rfl) ?_
            refine DOps.take (listed' := #[true, true, true, true, true, true, true, true, true, true, false, false, false, false, false, false, false]) 9 rfl (by kernel_rfl) rfl (List.Sublist.cons_cons _ (List.Sublist.cons_cons _ (List.Sublist.cons _ (List.Sublist.refl _)))) rfl rfl (Yv.move rfl) ?_
            refine DOps.take (listed' := #[true, true, true, true, true, true, true, true, true, true, true, false, false, false, false, false, false]) 10 rfl (by kernel_rfl) rfl (List.Sublist.cons_cons _ (List.Sublist.cons_cons _ (List.Sublist.cons _ (List.Sublist.refl _)))) rfl rfl (Yv.indexAddr i el42 rfl rfl rfl (Rd.arg hs2) (by omega)) ?_
            refine DOps.take (listed' := #[true, true, true, true, true, true, true, true, true, true, true, true, false, false, false, false, false]) 11 rfl (by kernel_rfl) rfl (List.Sublist.cons_cons _ (List.Sublist.cons_cons _ (List.Sublist.cons _ (List.Sublist.refl _)))) rfl rfl (Yv.fieldAddr fld51_2 rfl) ?_
            refine DOps.take (listed' := #[true, true, true, true, true, true, true, true, true, true, true, true, true, false, false, false, false]) 12 rfl (by kernel_rfl) rfl (List.Sublist.cons_cons _ (List.Sublist.cons_cons _ (List.Sublist.cons _ (List.Sublist.refl _)))) rfl rfl (Yv.loadF lay3 rfl Job.len (Rd.arg hs2) (by first | omega | (simp only [List.length_set]; omega)) (by decide) rfl) ?_
            refine DOps.only (listed' := #[true, true, true, true, true, true, true, true, true, true, true, true, true, true, false, false, false]) 13 rfl (by kernel_rfl) rfl rfl ?_
            refine One.st rfl (Yl.call callable70 (.cons rfl (.cons rfl (.nil))) (fun w' hw' => l17Far_spec (by omega) (by omega))) ?_
            refine ⟨(List.Sublist.cons_cons _ (List.Sublist.cons_cons _ (List.Sublist.cons _ (List.Sublist.refl _)))), ?_⟩
            refine DOps.take (listed' := #[true, true, true, true, true, true, true, true, true, true, true, true, true, true, true, false, false]) 14 rfl (by kernel_rfl) rfl (List.Sublist.cons_cons _ (List.Sublist.cons_cons _ (List.Sublist.cons _ (List.Sublist.refl _)))) rfl rfl (Yv.add rfl rfl (by omega)) ?_
            refine DOps.only (listed' := #[true, true, true, true, true, true, true, true, true, true, true, true, true, true, true, true, false]) 15 rfl (by kernel_rfl) rfl rfl ?_
            refine One.st rfl (Yv.indexAddr kf el43 rfl rfl (by omega) (Rd.row (i := 2) rfl) (by omega)).yl ?_
            refine ⟨(List.Sublist.cons_cons _ (List.Sublist.cons_cons _ (List.Sublist.cons _ (List.Sublist.refl _)))), ?_⟩
            refine DOps.only (listed' := #[true, true, true, true, true, true, true, true, true, true, true, true, true, true, true, true, true]) 16 rfl (by kernel_rfl) rfl rfl ?_
            refine One.storeE (i := 2) (k := kf) (f := 0) (H' := [_, _, _, _, _]) (e := ((max (nth js i).ready (nth Fr kf + nearAbs (nth P kf) (nth js i).src)) + nearAbs (nth js i).src (nth js i).dst)) lay3 rfl rfl rfl intC_len rfl (by decide) rfl rfl rfl hFl (by omega) rfl ?_
            refine ⟨(List.Sublist.cons_cons _ (List.Sublist.cons_cons _ (List.Sublist.cons _ (List.Sublist.refl _)))), ?_⟩
            refine DOps.done (by kernel_rfl) ?_
            refine Run.seq ?_
            refine Run.ops ?_
            refine SOps.st rfl rfl (Yv.move rfl).yl ?_
            refine SOps.st rfl rfl (Yv.move rfl).yl ?_
            refine SOps.st rfl rfl (Yv.move rfl).yl ?_
            refine SOps.st rfl rfl (Yv.move rfl).yl ?_
            refine SOps.st rfl rfl (Yv.indexAddr i el42 rfl rfl rfl (Rd.arg hs2) (by omega)).yl ?_
            refine SOps.st rfl rfl (Yv.fieldAddr fld51_2 rfl).yl ?_
            refine SOps.st rfl rfl (Yv.loadF lay3 rfl Job.len (Rd.arg hs2) (by first | omega | (simp only [List.length_set]; omega)) (by decide) rfl).yl ?_
            refine SOps.st rfl rfl (Yv.indexAddr kf el43 rfl rfl (by omega) (Rd.row (i := 1) rfl) (by omega)).yl ?_
            refine SOps.one rfl (One.storeE (i := 1) (k := kf) (f := 0) (H' := [_, _, _, _, _]) (e := (nth js i).dst) lay3 rfl rfl rfl intC_len rfl (by decide) rfl rfl rfl hPl (by omega) rfl ?_)
            refine SOps.nil ?_
            refine Run.ops ?_
            refine SOps.st rfl rfl (Yv.move rfl).yl ?_
            refine SOps.st rfl rfl (Yv.move rfl).yl ?_
            refine SOps.st rfl rfl (Yv.move rfl).yl ?_
            refine SOps.st rfl rfl (Yv.indexAddr kf el43 rfl rfl (by omega) (Rd.row (i := 2) rfl) (by omega)).yl ?_
            refine SOps.st rfl rfl (Yv.loadE lay3 rfl intC_len (Rd.row (i := 2) rfl) (by first | omega | (simp only [List.length_set]; omega)) rfl).yl ?_
            refine SOps.one rfl (One.buildSliceG (pv := [(0, _)]) (cs := [_]) (fun l => match l with | [a0_0] => [a0_0] | _ => []) rfl el43 (.cons rfl (.nil)) rfl rfl (by kernel_rfl) rfl rfl (fun b6 => ?_))
            refine SOps.one rfl (One.append (enc := intC) (l := Eo) (l2 := [nth (Fr.set kf ((max (nth js i).ready (nth Fr kf + nearAbs (nth P kf) (nth js i).src)) + nearAbs (nth js i).src (nth js i).dst)) kf]) (m' := (Eo ++ [nth (Fr.set kf ((max (nth js i).ready (nth Fr kf + nearAbs (nth P kf) (nth js i).src)) + nearAbs (nth js i).src (nth js i).dst)) kf]).length) (i := 4) (H' := fun A c => [_, _, _, _, _, _]) rfl el43 zero3 rfl (by decide) rfl rfl rfl (Rd.row (i := 0) rfl) (fun _ => rfl) (by simp) (by simp; omega) (by simp; omega) (fun _ _ => rfl) (fun A2 c2 => ?_))
            refine SOps.st rfl rfl (Yv.assign rfl).yl ?_
            refine SOps.nil ?_
            refine Run.quiet (by intro h; cases h) ?_
            refine QOps.st rfl rfl (Yv.move rfl).yl ?_
            refine QOps.st rfl rfl (Yv.succN rfl rfl (by omega)).yl ?_
            refine QOps.st rfl rfl (Yv.assign rfl).yl ?_
            refine QOps.nil ?_
            refine ⟨(i + 1, _, _, _, _, (_, _), (_, _)), ?_, ?_, (SubE.cons rfl (SubE.cons rfl (SubE.cons rfl (SubE.cons rfl (SubE.cons rfl (SubE.cons rfl (SubE.cons rfl (SubE.cons rfl (SubE.nil _))))))))), (List.Sublist.cons _ (List.Sublist.cons _ (List.Sublist.refl _)))⟩
            · exact ⟨by omega, by simpa using hPl, by simpa using hFl, q1, q2, q3⟩
            · first | omega | (dsimp only; omega)
          · try replace hc2 := of_decide_eq_false hc2
            obtain rfl : i = who.length := by omega
            refine Run.exit ?_
            refine Run.seq ?_
            refine Run.quiet (by intro h; cases h) ?_
            refine QOps.st rfl rfl (Yv.move rfl).yl ?_
            refine QOps.st rfl rfl (Yv.move rfl).yl ?_
            refine QOps.st rfl rfl (Yv.assign rfl).yl ?_
            refine QOps.st rfl rfl (Yv.assign rfl).yl ?_
            refine QOps.nil ?_
            refine Run.ret ?_
            refine retQ.of (.inr rfl) rfl (.tmp rfl (.tmp rfl .nil)) (fun w' hw' => ?_)
            rw [← hS, ← hE]
            exact retRow2_own (i := 3) (j := 2) hw' rfl rfl rfl rfl
end Go.Proofs.Ytkkmmbogeeopaaa
