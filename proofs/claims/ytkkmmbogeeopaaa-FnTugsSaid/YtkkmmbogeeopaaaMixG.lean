/- The best assignment of the reference, walked, and the law FnTugs. Conditions: none. -/
import Derived.Test.YtkkmmbogeeopaaaMixF
namespace Go.Proofs.Ytkkmmbogeeopaaa
open Go.RowKit
set_option maxRecDepth 100000
theorem takes_snoc {ts : List Tug} {js : List Job} {ps : List Int} {n : Nat} (hT : TugsIs ts) (hn : n < ts.length) (hp : ¬ (nth ts n).power < (nth js ps.length).power) (h : ∀ i, i < ps.length → takes ts (nth js i) (nth ps i) = true) : ∀ i, i < (ps ++ [(nth ts n).id]).length → takes ts (nth js i) (nth (ps ++ [(nth ts n).id]) i) = true := fun i hi => by
  rcases Nat.lt_or_ge i ps.length with h1 | h1
  · rw [nth_apl h1]
    exact h i h1
  · obtain rfl : i = ps.length := by simp at hi; omega
    have h2 := nth_apr (a := ps) (b := [(nth ts n).id]) (k := 0)
    rw [Nat.add_zero] at h2
    rw [h2]
    show takes ts (nth js ps.length) (nth ts n).id = true
    unfold takes
    rw [findTug_at hT hn]
    exact decide_eq_true (by omega)
def LBestOK (k : Nat) : Prop := ∀ (w : World) (cs c c2 : Nat) (As A A2 : Option Addr) (ts : List Tug) (js : List Job) (ps : List Int), TugsIs ts → JobsIs js → ps.length + k = js.length → (∀ i, i < ps.length → takes ts (nth js i) (nth ps i) = true) →
  HOk w (blks [.row As cs 3 1 ps.length (ps.flatMap intC)]) [.row As cs 3 1 ps.length (ps.flatMap intC)] w → Sl w 3 A ts.length c (ts.flatMap Tug.enc) → (0 < ts.length → (adr A).block ∉ blks [.row As cs 3 1 ps.length (ps.flatMap intC)]) → Sl w 5 A2 js.length c2 (js.flatMap Job.enc) → (0 < js.length → (adr A2).block ∉ blks [.row As cs 3 1 ps.length (ps.flatMap intC)]) →
  Calls Try.prog 84 #[.slice A ts.length c, .slice A2 js.length c2, .slice As ps.length cs] w
    (RetH w [.row As cs 3 1 ps.length (ps.flatMap intC)] (fun (x : Option Addr × Nat) => [.row x.1 x.2 3 1 (bestGo ts js k ps).1.length ((bestGo ts js k ps).1.flatMap intC)]) (fun x => .tuple #[.slice x.1 (bestGo ts js k ps).1.length x.2, .int .i64 (bestGo ts js k ps).2]) (fun _ => True))
theorem lbest_step {k : Nat} (ih : ∀ j, j < k → LBestOK j) : LBestOK k := by
  intro w cs c c2 As A A2 ts js ps hT hJ hk hW hw hs hn hs2 hn2
  have htl := hT.len
  have hjl := hJ.len
  refine calls_of_run (vs := [_, _, _]) (L := [(0, _), (1, _), (2, _)]) (n := 72) (F := blks _) (H := _) Try.func84 rfl rfl rfl rfl hw ?_
  refine Run.seq ?_
  refine Run.quiet (by intro h; cases h) ?_
  refine QOps.st rfl rfl (Yv.assign rfl).yl ?_
  refine QOps.st rfl rfl (Yv.assign rfl).yl ?_
  refine QOps.nil ?_
  refine Run.seq ?_
  refine Run.seq ?_
  refine Run.quiet (by intro h; cases h) ?_
  refine QOps.st rfl rfl (Yv.move rfl).yl ?_
  refine QOps.st rfl rfl (Yv.lenS el43s rfl).yl ?_
  refine QOps.st rfl rfl (Yv.move rfl).yl ?_
  refine QOps.st rfl rfl (Yv.lenS el42s rfl).yl ?_
  refine QOps.st rfl rfl (Yv.eqI rfl rfl).yl ?_
  refine QOps.nil ?_
  refine Run.cond rfl (fun hc1 => ?_) (fun hc1 => ?_)
  · try replace hc1 := of_decide_eq_true hc1
    obtain rfl : k = 0 := by omega
    have hE : bestGo ts js 0 ps = (ps, (dayTo ts js ps ps.length).waits) := by rw [bestGo, show js.length = ps.length by omega]
    refine Run.seq ?_
    refine Run.quiet (by intro h; cases h) ?_
    refine QOps.st rfl rfl (Yv.move rfl).yl ?_
    refine QOps.st rfl rfl (Yv.move rfl).yl ?_
    refine QOps.st rfl rfl (Yv.move rfl).yl ?_
    refine QOps.st rfl rfl (Yv.move rfl).yl ?_
    refine QOps.st rfl rfl (Yl.call callable81 (.cons rfl (.cons rfl (.cons rfl (.nil)))) (fun w' hw' => l17Waiting_spec ((Rd.argN hs hn) w' hw') ((Rd.argN hs2 hn2) w' hw') ((Rd.row (i := 0) rfl) w' hw') hT hJ (by omega) hW)) ?_
    refine QOps.st rfl rfl (Yv.assign rfl).yl ?_
    refine QOps.st rfl rfl (Yv.assign rfl).yl ?_
    refine QOps.nil ?_
    refine Run.ret ?_
    refine retQ.of (.inr rfl) rfl (.tmp rfl (.tmp rfl .nil)) (fun w' hw' => ?_)
    exact ⟨(As, cs), by rw [hE]; rfl, trivial, by rw [hE]; exact hw'.sub (List.Sublist.refl _)⟩
  · try replace hc1 := of_decide_eq_false hc1
    obtain ⟨k, rfl⟩ : ∃ k', k = k' + 1 := ⟨k - 1, by omega⟩
    refine Run.skip ?_
    refine Run.seq ?_
    refine Run.ops ?_
    refine SOps.one rfl (One.buildSliceG (pv := []) (cs := []) (fun _ => []) rfl el43 .nil rfl rfl (by kernel_rfl) rfl rfl (fun b1 => ?_))
    refine SOps.st rfl rfl (Yv.assign rfl).yl ?_
    refine SOps.st rfl rfl (Yv.assign rfl).yl ?_
    refine SOps.nil ?_
    refine Run.seq ?_
    refine Run.seq ?_
    refine Run.quiet (by intro h; cases h) ?_
    refine QOps.st rfl rfl (Yv.assign rfl).yl ?_
    refine QOps.nil ?_
    refine Run.block ?_
    refine Run.loop (S := Nat × List Int × Int × Option Addr × Nat) (fun s => match s with | (n, B, q, Ao, co) => n ≤ ts.length ∧ foldTug ts (nth js ps.length).power (fun id => bestGo ts js k (ps ++ [id])) n = (B, q)) (fun s => match s with | (n, B, q, Ao, co) => [(0, .slice A ts.length c), (1, .slice A2 js.length c2), (2, .slice As ps.length cs), (8, .slice Ao B.length co), (9, .int .i64 q), (10, .int .i64 (n : Int))]) (fun s => match s with | (n, B, q, Ao, co) => [.row Ao co 3 1 B.length (B.flatMap intC), .row As cs 3 1 ps.length (ps.flatMap intC)]) (fun s => match s with | (n, B, q, Ao, co) => ts.length - n) (0, [], -1, _, _) ?_ (SubE.cons rfl (SubE.cons rfl (SubE.cons rfl (SubE.cons rfl (SubE.cons rfl (SubE.cons rfl (SubE.nil _))))))) (List.Sublist.refl _) ?_
    · exact ⟨by omega, rfl⟩
    · rintro ⟨n, B, q, Ao, co⟩ ⟨hnm, hB⟩
      show Run _ _ _ _ _ [(0, .slice A ts.length c), (1, .slice A2 js.length c2), (2, .slice As ps.length cs), (8, .slice Ao B.length co), (9, .int .i64 q), (10, .int .i64 (n : Int))] [.row Ao co 3 1 B.length (B.flatMap intC), .row As cs 3 1 ps.length (ps.flatMap intC)] _
      refine Run.seq ?_
      refine Run.seq ?_
      refine Run.quiet (by intro h; cases h) ?_
      refine QOps.st rfl rfl (Yv.move rfl).yl ?_
      refine QOps.st rfl rfl (Yv.move rfl).yl ?_
      refine QOps.st rfl rfl (Yv.lenS el41s rfl).yl ?_
      refine QOps.st rfl rfl (Yv.lss rfl rfl).yl ?_
      refine QOps.nil ?_
      refine Run.cond rfl (fun hc2 => ?_) (fun hc2 => ?_)
      · try replace hc2 := of_decide_eq_true hc2
        refine Run.skip ?_
        refine Run.seq ?_
        refine Run.block ?_
        refine Run.seq ?_
        refine Run.seq ?_
        refine Run.quiet (fun _ => ⟨by kernel_rfl, by kernel_rfl⟩) ?_
        refine QOps.st rfl rfl (Yv.move rfl).yl ?_
        refine QOps.st rfl rfl (Yv.move rfl).yl ?_
        refine QOps.st rfl rfl (Yv.indexAddr n el41 rfl rfl rfl (Rd.argN hs hn) (by omega)).yl ?_
        refine QOps.st rfl rfl (Yv.fieldAddr fld49_2 rfl).yl ?_
        refine QOps.st rfl rfl (Yv.loadF lay3 rfl Tug.len (Rd.argN hs hn) (by first | omega | (simp; omega)) (by decide) rfl).yl ?_
        refine QOps.st rfl rfl (Yv.move rfl).yl ?_
        refine QOps.st rfl rfl (Yv.move rfl).yl ?_
        refine QOps.st rfl rfl (Yv.lenS el43s rfl).yl ?_
        refine QOps.st rfl rfl (Yv.indexAddr ps.length el42 rfl rfl rfl (Rd.argN hs2 hn2) (by omega)).yl ?_
        refine QOps.st rfl rfl (Yv.fieldAddr fld51_3 rfl).yl ?_
        refine QOps.st rfl rfl (Yv.loadF lay3 rfl Job.len (Rd.argN hs2 hn2) (by first | omega | (simp; omega)) (by decide) rfl).yl ?_
        refine QOps.st rfl rfl (Yv.lss rfl rfl).yl ?_
        refine QOps.nil ?_
        refine Run.cond rfl (fun hc3 => ?_) (fun hc3 => ?_)
        · try replace hc3 := of_decide_eq_true hc3
          have hst : foldTug ts (nth js ps.length).power (fun id => bestGo ts js k (ps ++ [id])) (n + 1) = (B, q) := by rw [foldTug, if_neg (by omega), hB]
          refine Run.exit ?_
          refine Run.quiet (by intro h; cases h) ?_
          refine QOps.st rfl rfl (Yv.move rfl).yl ?_
          refine QOps.st rfl rfl (Yv.succN rfl rfl (by omega)).yl ?_
          refine QOps.st rfl rfl (Yv.assign rfl).yl ?_
          refine QOps.nil ?_
          refine ⟨(n + 1, B, q, Ao, co), ?_, ?_, (SubE.cons rfl (SubE.cons rfl (SubE.cons rfl (SubE.cons rfl (SubE.cons rfl (SubE.cons rfl (SubE.nil _))))))), (List.Sublist.refl _)⟩
          · exact ⟨by omega, hst⟩
          · first | omega | (dsimp only; omega)
        · try replace hc3 := of_decide_eq_false hc3
          refine Run.skip ?_
          refine Run.seq ?_
          refine Run.draws (fun H => H) (m := 17) (listed := #[false, false, false, false, false, false, false, false, false, false, false, false, false, false, false, false, false]) (by kernel_rfl) rfl rfl ?_
          refine DOps.take (listed' := #[true, false, false, false, false, false, false, false, false, false, false, false, false, false, false, false, false]) 0 rfl (by kernel_rfl) rfl (List.Sublist.refl _) rfl rfl (Yv.move rfl) ?_
          refine DOps.take (listed' := #[true, true, false, false, false, false, false, false, false, false, false, false, false, false, false, false, false]) 1 rfl (by kernel_rfl) rfl (List.Sublist.refl _) rfl rfl (Yv.move rfl) ?_
          refine DOps.take (listed' := #[true, true, true, false, false, false, false, false, false, false, false, false, false, false, false, false, false]) 2 rfl (by kernel_rfl) rfl (List.Sublist.refl _) rfl rfl (Yv.move rfl) ?_
          refine DOps.take (listed' := #[true, true, true, false, true, false, false, false, false, false, false, false, false, false, false, false, false]) 4 rfl (by kernel_rfl) rfl (List.Sublist.refl _) rfl rfl (Yv.move rfl) ?_
          refine DOps.take (listed' := #[true, true, true, false, true, true, false, false, false, false, false, false, false, false, false, false, false]) 5 rfl (by kernel_rfl) rfl (List.Sublist.refl _) rfl rfl (Yv.move rfl) ?_
          refine DOps.take (listed' := #[true, true, true, false, true, true, true, false, false, false, false, false, false, false, false, false, false]) 6 rfl (by kernel_rfl) rfl (List.Sublist.refl _) rfl rfl (Yv.indexAddr n el41 rfl rfl rfl (Rd.argN hs hn) (by omega)) ?_
          refine DOps.take (listed' := #[true, true, true, false, true, true, true, true, false, false, false, false, false, false, false, false, false]) 7 rfl (by kernel_rfl) rfl (List.Sublist.refl _) rfl rfl (Yv.fieldAddr fld49_0 rfl) ?_
          refine DOps.take (listed' := #[true, true, true, false, true, true, true, true, true, false, false, false, false, false, false, false, false]) 8 rfl (by kernel_rfl) rfl (List.Sublist.refl _) rfl rfl (Yv.loadF lay3 rfl Tug.len (Rd.argN hs hn) (by first | omega | (simp; omega)) (by decide) rfl) ?_
          refine DOps.fork2 (l1 := #[true, true, true, true, true, true, true, true, true, false, false, false, false, false, false, false, false]) (l2 := #[true, true, true, false, true, true, true, true, true, true, false, false, false, false, false, false, false]) 3 9 rfl rfl (by kernel_rfl) rfl rfl rfl rfl ?_ ?_
          ·
            refine One.callRow rfl callable96 (.cons rfl (.nil)) (fun w' hw' => l1Own_spec ((Rd.row (i := 1) rfl) w' hw') (by omega)) (fun A11 c11 => ?_)
            refine ⟨(List.Sublist.cons _ (List.Sublist.refl _)), ?_⟩
            refine DOps.only (listed' := #[true, true, true, true, true, true, true, true, true, true, false, false, false, false, false, false, false]) 9 rfl (by kernel_rfl) rfl rfl ?_
            refine One.buildSliceG (pv := [(0, _)]) (cs := [_]) (fun l => match l with | [a0_0] => [a0_0] | _ => []) rfl el43 (.cons rfl (.nil)) rfl rfl (by kernel_rfl) rfl rfl (fun b2 => ?_)
            refine ⟨(List.Sublist.cons _ (List.Sublist.cons _ (List.Sublist.refl _))), ?_⟩
            refine DOps.only (listed' := #[true, true, true, true, true, true, true, true, true, true, true, false, false, false, false, false, false]) 10 rfl (by kernel_rfl) rfl rfl ?_
            refine One.append (enc := intC) (l := ps) (l2 := [(nth ts n).id]) (m' := (ps ++ [(nth ts n).id]).length) (i := 1) (H' := fun A c => [_, _, _, _]) rfl el43 zero3 rfl (by decide) rfl rfl rfl (Rd.row (i := 0) rfl) (fun _ => rfl) (by simp) (by simp; omega) (by simp; omega) (fun _ _ => rfl) (fun A12 c12 => ?_)
            refine ⟨(List.Sublist.cons _ (List.Sublist.cons _ (List.Sublist.refl _))), ?_⟩
            refine DOps.only (listed' := #[true, true, true, true, true, true, true, true, true, true, true, true, false, false, false, false, false]) 11 rfl (by kernel_rfl) rfl rfl ?_
            refine One.callH (E := [_]) (H1 := [_, _, _]) rfl callable84 (.cons rfl (.cons rfl (.cons rfl (.nil)))) [false, true, false, false] rfl rfl (fun w' hw' => ih k (Nat.lt_succ_self k) w' _ c c2 _ A A2 ts js (ps ++ [(nth ts n).id]) hT hJ (by simp; omega) (takes_snoc hT (by omega) hc3 hW) hw'.lendL ((Rd.argN hs hn) w' hw') (fun hm => HOk.apartArg hw' hs hn (fun e he => List.mem_append_left _ he) hm) ((Rd.argN hs2 hn2) w' hw') (fun hm => HOk.apartArg hw' hs2 hn2 (fun e he => List.mem_append_left _ he) hm)) ?_
            rintro ⟨Av1, cv1⟩ -
            refine ⟨(List.Sublist.cons _ (List.Sublist.cons_cons _ (List.Sublist.cons_cons _ (List.nil_sublist _)))), ?_⟩
            refine DOps.take (listed' := #[true, true, true, true, true, true, true, true, true, true, true, true, true, false, false, false, false]) 12 rfl (by kernel_rfl) rfl (List.Sublist.cons _ (List.Sublist.cons_cons _ (List.Sublist.cons_cons _ (List.nil_sublist _)))) rfl rfl (Yv.move rfl) ?_
            refine DOps.take (listed' := #[true, true, true, true, true, true, true, true, true, true, true, true, true, true, false, false, false]) 13 rfl (by kernel_rfl) rfl (List.Sublist.cons _ (List.Sublist.cons_cons _ (List.Sublist.cons_cons _ (List.nil_sublist _)))) rfl rfl (Yv.extract rfl rfl) ?_
            refine DOps.take (listed' := #[true, true, true, true, true, true, true, true, true, true, true, true, true, true, true, false, false]) 14 rfl (by kernel_rfl) rfl (List.Sublist.cons _ (List.Sublist.cons_cons _ (List.Sublist.cons_cons _ (List.nil_sublist _)))) rfl rfl (Yv.extract rfl rfl) ?_
            refine DOps.take (listed' := #[true, true, true, true, true, true, true, true, true, true, true, true, true, true, true, true, false]) 15 rfl (by kernel_rfl) rfl (List.Sublist.cons _ (List.Sublist.cons_cons _ (List.Sublist.cons_cons _ (List.nil_sublist _)))) rfl rfl (Yv.assign rfl) ?_
            refine DOps.take (listed' := #[true, true, true, true, true, true, true, true, true, true, true, true, true, true, true, true, true]) 16 rfl (by kernel_rfl) rfl (List.Sublist.cons _ (List.Sublist.cons_cons _ (List.Sublist.cons_cons _ (List.nil_sublist _)))) rfl rfl (Yv.assign rfl) ?_
            refine DOps.done (by kernel_rfl) ?_
            refine Run.seq ?_
            refine Run.perm (List.perm_middle (l₁ := [_, _, _]) (l₂ := [])) ?_
            refine Run.quiet (by intro h; cases h) ?_
            refine QOps.st rfl rfl (Yv.move rfl).yl ?_
            refine QOps.st rfl rfl (Yv.geq rfl rfl).yl ?_
            refine QOps.st rfl rfl (Yv.move rfl).yl ?_
            refine' QOps.and [_, _, _, _, _, _, _] _ (.tmp 66) rfl rfl rfl rfl rfl rfl (fun hg1 => ?_) ?_
            rotate_left
            · try replace hg1 := of_decide_eq_true hg1
              refine QOps.st rfl rfl (Yv.move rfl).yl ?_
              refine QOps.st rfl rfl (Yv.lss rfl rfl).yl ?_
              refine QOps.st rfl rfl (Yv.move rfl).yl ?_
              refine' QOps.or [_, _, _] _ (.tmp 65) rfl rfl rfl rfl rfl rfl (fun hg2 => ?_) ?_
              rotate_left
              · try replace hg2 := of_decide_eq_false hg2
                refine QOps.st rfl rfl (Yv.move rfl).yl ?_
                refine QOps.st rfl rfl (Yv.move rfl).yl ?_
                refine QOps.st rfl rfl (Yv.lss rfl rfl).yl ?_
                exact QOps.nil rfl
              exact QOps.nil rfl
            refine QOps.nil ?_
            refine Run.cond rfl (fun hc4 => ?_) (fun hc4 => ?_)
            · try replace hc4 := of_decide_eq_true hc4
              have hst : foldTug ts (nth js ps.length).power (fun id => bestGo ts js k (ps ++ [id])) (n + 1) = (bestGo ts js k (ps ++ [(nth ts n).id])) := by
                    rw [foldTug, if_pos (by omega), hB]; unfold comb; rw [if_pos (by simpa using hc4)]
              refine Run.seq ?_
              refine Run.quiet (by intro h; cases h) ?_
              refine QOps.st rfl rfl (Yv.move rfl).yl ?_
              refine QOps.st rfl rfl (Yv.assign rfl).yl ?_
              refine QOps.nil ?_
              refine Run.quiet (by intro h; cases h) ?_
              refine QOps.st rfl rfl (Yv.move rfl).yl ?_
              refine QOps.st rfl rfl (Yv.assign rfl).yl ?_
              refine QOps.nil ?_
              refine Run.quiet (by intro h; cases h) ?_
              refine QOps.st rfl rfl (Yv.move rfl).yl ?_
              refine QOps.st rfl rfl (Yv.succN rfl rfl (by omega)).yl ?_
              refine QOps.st rfl rfl (Yv.assign rfl).yl ?_
              refine QOps.nil ?_
              refine ⟨(n + 1, _, _, _, _), ?_, ?_, (SubE.cons rfl (SubE.cons rfl (SubE.cons rfl (SubE.cons rfl (SubE.cons rfl (SubE.cons rfl (SubE.nil _))))))), (List.Sublist.cons_cons _ (List.Sublist.cons _ (List.Sublist.cons _ (List.Sublist.refl _))))⟩
              · exact ⟨by omega, hst⟩
              · first | omega | (dsimp only; omega)
            · try replace hc4 := of_decide_eq_false hc4
              have hst : foldTug ts (nth js ps.length).power (fun id => bestGo ts js k (ps ++ [id])) (n + 1) = (B, q) := by
                    rw [foldTug, if_pos (by omega), hB]; unfold comb; rw [if_neg (fun h => absurd (show (decide (0 ≤ (bestGo ts js k (ps ++ [(nth ts n).id])).2) && (decide (q < 0) || decide ((bestGo ts js k (ps ++ [(nth ts n).id])).2 < q))) = true by simpa using h) (by rw [hc4]; simp))]
              refine Run.skip ?_
              refine Run.quiet (by intro h; cases h) ?_
              refine QOps.st rfl rfl (Yv.move rfl).yl ?_
              refine QOps.st rfl rfl (Yv.succN rfl rfl (by omega)).yl ?_
              refine QOps.st rfl rfl (Yv.assign rfl).yl ?_
              refine QOps.nil ?_
              refine ⟨(n + 1, B, q, Ao, co), ?_, ?_, (SubE.cons rfl (SubE.cons rfl (SubE.cons rfl (SubE.cons rfl (SubE.cons rfl (SubE.cons rfl (SubE.nil _))))))), (List.Sublist.cons _ (List.Sublist.cons _ (List.Sublist.refl _)))⟩
              · exact ⟨by omega, hst⟩
              · first | omega | (dsimp only; omega)
          ·
            refine One.buildSliceG (pv := [(0, _)]) (cs := [_]) (fun l => match l with | [a0_0] => [a0_0] | _ => []) rfl el43 (.cons rfl (.nil)) rfl rfl (by kernel_rfl) rfl rfl (fun b2 => ?_)
            refine ⟨(List.Sublist.cons _ (List.Sublist.refl _)), ?_⟩
            refine DOps.only (listed' := #[true, true, true, true, true, true, true, true, true, true, false, false, false, false, false, false, false]) 3 rfl (by kernel_rfl) rfl rfl ?_
            refine One.callRow rfl callable96 (.cons rfl (.nil)) (fun w' hw' => l1Own_spec ((Rd.row (i := 2) rfl) w' hw') (by omega)) (fun A11 c11 => ?_)
            refine ⟨(List.Sublist.cons _ (List.Sublist.cons _ (List.Sublist.refl _))), ?_⟩
            refine DOps.only (listed' := #[true, true, true, true, true, true, true, true, true, true, true, false, false, false, false, false, false]) 10 rfl (by kernel_rfl) rfl rfl ?_
            refine One.append (enc := intC) (l := ps) (l2 := [(nth ts n).id]) (m' := (ps ++ [(nth ts n).id]).length) (i := 0) (H' := fun A c => [_, _, _, _]) rfl el43 zero3 rfl (by decide) rfl rfl rfl (Rd.row (i := 1) rfl) (fun _ => rfl) (by simp) (by simp; omega) (by simp; omega) (fun _ _ => rfl) (fun A12 c12 => ?_)
            refine ⟨(List.Sublist.cons _ (List.Sublist.cons _ (List.Sublist.refl _))), ?_⟩
            refine DOps.only (listed' := #[true, true, true, true, true, true, true, true, true, true, true, true, false, false, false, false, false]) 11 rfl (by kernel_rfl) rfl rfl ?_
            refine One.callH (E := [_]) (H1 := [_, _, _]) rfl callable84 (.cons rfl (.cons rfl (.cons rfl (.nil)))) [true, false, false, false] rfl rfl (fun w' hw' => ih k (Nat.lt_succ_self k) w' _ c c2 _ A A2 ts js (ps ++ [(nth ts n).id]) hT hJ (by simp; omega) (takes_snoc hT (by omega) hc3 hW) hw'.lendL ((Rd.argN hs hn) w' hw') (fun hm => HOk.apartArg hw' hs hn (fun e he => List.mem_append_left _ he) hm) ((Rd.argN hs2 hn2) w' hw') (fun hm => HOk.apartArg hw' hs2 hn2 (fun e he => List.mem_append_left _ he) hm)) ?_
            rintro ⟨Av1, cv1⟩ -
            refine ⟨(List.Sublist.cons _ (List.Sublist.cons_cons _ (List.Sublist.cons_cons _ (List.nil_sublist _)))), ?_⟩
            refine DOps.take (listed' := #[true, true, true, true, true, true, true, true, true, true, true, true, true, false, false, false, false]) 12 rfl (by kernel_rfl) rfl (List.Sublist.cons _ (List.Sublist.cons_cons _ (List.Sublist.cons_cons _ (List.nil_sublist _)))) rfl rfl (Yv.move rfl) ?_
            refine DOps.take (listed' := #[true, true, true, true, true, true, true, true, true, true, true, true, true, true, false, false, false]) 13 rfl (by kernel_rfl) rfl (List.Sublist.cons _ (List.Sublist.cons_cons _ (List.Sublist.cons_cons _ (List.nil_sublist _)))) rfl rfl (Yv.extract rfl rfl) ?_
            refine DOps.take (listed' := #[true, true, true, true, true, true, true, true, true, true, true, true, true, true, true, false, false]) 14 rfl (by kernel_rfl) rfl (List.Sublist.cons _ (List.Sublist.cons_cons _ (List.Sublist.cons_cons _ (List.nil_sublist _)))) rfl rfl (Yv.extract rfl rfl) ?_
            refine DOps.take (listed' := #[true, true, true, true, true, true, true, true, true, true, true, true, true, true, true, true, false]) 15 rfl (by kernel_rfl) rfl (List.Sublist.cons _ (List.Sublist.cons_cons _ (List.Sublist.cons_cons _ (List.nil_sublist _)))) rfl rfl (Yv.assign rfl) ?_
            refine DOps.take (listed' := #[true, true, true, true, true, true, true, true, true, true, true, true, true, true, true, true, true]) 16 rfl (by kernel_rfl) rfl (List.Sublist.cons _ (List.Sublist.cons_cons _ (List.Sublist.cons_cons _ (List.nil_sublist _)))) rfl rfl (Yv.assign rfl) ?_
            refine DOps.done (by kernel_rfl) ?_
            refine Run.seq ?_
            refine Run.perm (List.perm_middle (l₁ := [_, _, _]) (l₂ := [])) ?_
            refine Run.quiet (by intro h; cases h) ?_
            refine QOps.st rfl rfl (Yv.move rfl).yl ?_
            refine QOps.st rfl rfl (Yv.geq rfl rfl).yl ?_
            refine QOps.st rfl rfl (Yv.move rfl).yl ?_
            refine' QOps.and [_, _, _, _, _, _, _] _ (.tmp 66) rfl rfl rfl rfl rfl rfl (fun hg1 => ?_) ?_
            rotate_left
            · try replace hg1 := of_decide_eq_true hg1
              refine QOps.st rfl rfl (Yv.move rfl).yl ?_
              refine QOps.st rfl rfl (Yv.lss rfl rfl).yl ?_
              refine QOps.st rfl rfl (Yv.move rfl).yl ?_
              refine' QOps.or [_, _, _] _ (.tmp 65) rfl rfl rfl rfl rfl rfl (fun hg2 => ?_) ?_
              rotate_left
              · try replace hg2 := of_decide_eq_false hg2
                refine QOps.st rfl rfl (Yv.move rfl).yl ?_
                refine QOps.st rfl rfl (Yv.move rfl).yl ?_
                refine QOps.st rfl rfl (Yv.lss rfl rfl).yl ?_
                exact QOps.nil rfl
              exact QOps.nil rfl
            refine QOps.nil ?_
            refine Run.cond rfl (fun hc4 => ?_) (fun hc4 => ?_)
            · try replace hc4 := of_decide_eq_true hc4
              have hst : foldTug ts (nth js ps.length).power (fun id => bestGo ts js k (ps ++ [id])) (n + 1) = (bestGo ts js k (ps ++ [(nth ts n).id])) := by
                    rw [foldTug, if_pos (by omega), hB]; unfold comb; rw [if_pos (by simpa using hc4)]
              refine Run.seq ?_
              refine Run.quiet (by intro h; cases h) ?_
              refine QOps.st rfl rfl (Yv.move rfl).yl ?_
              refine QOps.st rfl rfl (Yv.assign rfl).yl ?_
              refine QOps.nil ?_
              refine Run.quiet (by intro h; cases h) ?_
              refine QOps.st rfl rfl (Yv.move rfl).yl ?_
              refine QOps.st rfl rfl (Yv.assign rfl).yl ?_
              refine QOps.nil ?_
              refine Run.quiet (by intro h; cases h) ?_
              refine QOps.st rfl rfl (Yv.move rfl).yl ?_
              refine QOps.st rfl rfl (Yv.succN rfl rfl (by omega)).yl ?_
              refine QOps.st rfl rfl (Yv.assign rfl).yl ?_
              refine QOps.nil ?_
              refine ⟨(n + 1, _, _, _, _), ?_, ?_, (SubE.cons rfl (SubE.cons rfl (SubE.cons rfl (SubE.cons rfl (SubE.cons rfl (SubE.cons rfl (SubE.nil _))))))), (List.Sublist.cons_cons _ (List.Sublist.cons _ (List.Sublist.cons _ (List.Sublist.refl _))))⟩
              · exact ⟨by omega, hst⟩
              · first | omega | (dsimp only; omega)
            · try replace hc4 := of_decide_eq_false hc4
              have hst : foldTug ts (nth js ps.length).power (fun id => bestGo ts js k (ps ++ [id])) (n + 1) = (B, q) := by
                    rw [foldTug, if_pos (by omega), hB]; unfold comb; rw [if_neg (fun h => absurd (show (decide (0 ≤ (bestGo ts js k (ps ++ [(nth ts n).id])).2) && (decide (q < 0) || decide ((bestGo ts js k (ps ++ [(nth ts n).id])).2 < q))) = true by simpa using h) (by rw [hc4]; simp))]
              refine Run.skip ?_
              refine Run.quiet (by intro h; cases h) ?_
              refine QOps.st rfl rfl (Yv.move rfl).yl ?_
              refine QOps.st rfl rfl (Yv.succN rfl rfl (by omega)).yl ?_
              refine QOps.st rfl rfl (Yv.assign rfl).yl ?_
              refine QOps.nil ?_
              refine ⟨(n + 1, B, q, Ao, co), ?_, ?_, (SubE.cons rfl (SubE.cons rfl (SubE.cons rfl (SubE.cons rfl (SubE.cons rfl (SubE.cons rfl (SubE.nil _))))))), (List.Sublist.cons _ (List.Sublist.cons _ (List.Sublist.refl _)))⟩
              · exact ⟨by omega, hst⟩
              · first | omega | (dsimp only; omega)
      · try replace hc2 := of_decide_eq_false hc2
        obtain rfl : n = ts.length := by omega
        have hE : bestGo ts js (k + 1) ps = (B, q) := by rw [bestGo]; exact hB
        refine Run.exit ?_
        refine Run.seq ?_
        refine Run.quiet (by intro h; cases h) ?_
        refine QOps.st rfl rfl (Yv.move rfl).yl ?_
        refine QOps.st rfl rfl (Yv.move rfl).yl ?_
        refine QOps.st rfl rfl (Yv.assign rfl).yl ?_
        refine QOps.st rfl rfl (Yv.assign rfl).yl ?_
        refine QOps.nil ?_
        refine Run.ret ?_
        refine retQ.of (.inr rfl) rfl (.tmp rfl (.tmp rfl .nil)) (fun w' hw' => ?_)
        exact ⟨(Ao, co), by rw [hE]; rfl, trivial, by rw [hE]; exact hw'.sub (List.Sublist.cons_cons _ (List.nil_sublist _))⟩
theorem lbest_spec : ∀ k, LBestOK k := fun k => Nat.strongRecOn k fun _ ih => lbest_step ih
theorem sBestTugs_spec {w : World} {A : Option Addr} {c : Nat} {ts : List Tug} {A2 : Option Addr} {c2 : Nat} {js : List Job} (hs : Sl w 3 A ts.length c (ts.flatMap Tug.enc)) (hs2 : Sl w 5 A2 js.length c2 (js.flatMap Job.enc)) : Calls Try.prog 42 #[.slice A ts.length c, .slice A2 js.length c2] w (RetRow w 3 1 (bestOf ts js).1.length ((bestOf ts js).1.flatMap intC) (fun v => .tuple #[v, .int .i64 (bestOf ts js).2.1, .bool (bestOf ts js).2.2])) := by
  refine calls_of_run (vs := [_, _]) (L := [(0, _), (1, _)]) (n := 30) (F := []) (H := []) Try.func42 rfl rfl rfl rfl (HOk.start _) ?_
  refine Run.seq ?_
  refine Run.quiet (by intro h; cases h) ?_
  refine QOps.st rfl rfl (Yv.assign rfl).yl ?_
  refine QOps.st rfl rfl (Yv.assign rfl).yl ?_
  refine QOps.st rfl rfl (Yv.assign rfl).yl ?_
  refine QOps.nil ?_
  refine Run.seq ?_
  refine Run.seq ?_
  refine Run.quiet (by intro h; cases h) ?_
  refine QOps.st rfl rfl (Yv.move rfl).yl ?_
  refine QOps.st rfl rfl (Yl.call callable74 (.cons rfl (.nil)) (fun w' hw' => l17Tugs_spec ((Rd.arg hs) w' hw'))) ?_
  refine QOps.st rfl rfl (Yv.not rfl).yl ?_
  refine QOps.st rfl rfl (Yv.move rfl).yl ?_
  refine' QOps.or [_, _, _] _ (.tmp 15) rfl rfl rfl rfl rfl rfl (fun hg1 => ?_) ?_
  rotate_left
  · try replace hg1 := of_decide_eq_false hg1
    refine QOps.st rfl rfl (Yv.move rfl).yl ?_
    refine QOps.st rfl rfl (Yl.call callable79 (.cons rfl (.nil)) (fun w' hw' => l17Jobs_spec ((Rd.arg hs2) w' hw'))) ?_
    refine QOps.st rfl rfl (Yv.not rfl).yl ?_
    exact QOps.nil rfl
  refine QOps.nil ?_
  refine Run.cond rfl (fun hc1 => ?_) (fun hc1 => ?_)
  · try replace hc1 := of_decide_eq_true hc1
    have hz : bestOf ts js = ([], 0, false) := by unfold bestOf; rw [if_neg (both_no hc1)]
    refine Run.seq ?_
    refine Run.ops ?_
    refine SOps.one rfl (One.buildSliceG (pv := []) (cs := []) (fun _ => []) rfl el43 .nil rfl rfl (by kernel_rfl) rfl rfl (fun b1 => ?_))
    refine SOps.st rfl rfl (Yv.assign rfl).yl ?_
    refine SOps.st rfl rfl (Yv.assign rfl).yl ?_
    refine SOps.st rfl rfl (Yv.assign rfl).yl ?_
    refine SOps.nil ?_
    refine Run.ret ?_
    refine retQ.of (.inr rfl) rfl (.tmp rfl (.tmp rfl (.tmp rfl .nil))) (fun w' hw' => ?_)
    rw [hz]; exact ⟨_, _, rfl, hw'.bel.below, hw'.ent _ (List.mem_of_getElem? (i := 0) rfl), fun g hg => (hw'.own _ (List.mem_of_getElem? (i := 0) rfl) g hg).elim id (by simp)⟩
  · try replace hc1 := of_decide_eq_false hc1
    have hyes := both_yes hc1
    have hy2 := hyes
    rw [Bool.and_eq_true] at hy2
    have hT := tugs_is hy2.1
    have hJ := jobs_is hy2.2
    refine Run.skip ?_
    refine Run.seq ?_
    refine Run.ops ?_
    refine SOps.st rfl rfl (Yv.move rfl).yl ?_
    refine SOps.st rfl rfl (Yv.move rfl).yl ?_
    refine SOps.one rfl (One.buildSliceG (pv := []) (cs := []) (fun _ => []) rfl el43 .nil rfl rfl (by kernel_rfl) rfl rfl (fun b2 => ?_))
    refine SOps.one rfl (One.callH (E := [_]) (H1 := []) rfl callable84 (.cons rfl (.cons rfl (.cons rfl (.nil)))) [true] rfl rfl (fun w' hw' => lbest_spec js.length w' 0 c c2 (some ⟨b2, 0, none⟩) A A2 ts js [] hT hJ (by simp) (fun i hi => by simp at hi) hw'.lendL ((Rd.arg hs) w' hw') (fun hm => HOk.apartArg hw' hs (by simp) (fun e he => List.mem_append_left _ he) hm) ((Rd.arg hs2) w' hw') (fun hm => HOk.apartArg hw' hs2 (by simp) (fun e he => List.mem_append_left _ he) hm)) ?_)
    rintro ⟨Av1, cv1⟩ -
    refine SOps.st rfl rfl (Yv.move rfl).yl ?_
    refine SOps.st rfl rfl (Yv.extract rfl rfl).yl ?_
    refine SOps.st rfl rfl (Yv.extract rfl rfl).yl ?_
    refine SOps.st rfl rfl (Yv.assign rfl).yl ?_
    refine SOps.st rfl rfl (Yv.assign rfl).yl ?_
    refine SOps.nil ?_
    refine Run.seq ?_
    refine Run.seq ?_
    refine Run.quiet (by intro h; cases h) ?_
    refine QOps.st rfl rfl (Yv.move rfl).yl ?_
    refine QOps.st rfl rfl (Yv.lss rfl rfl).yl ?_
    refine QOps.nil ?_
    refine Run.cond rfl (fun hc2 => ?_) (fun hc2 => ?_)
    · try replace hc2 := of_decide_eq_true hc2
      have hz : bestOf ts js = ([], 0, false) := by unfold bestOf; rw [if_pos hyes, if_pos hc2]
      refine Run.seq ?_
      refine Run.ops ?_
      refine SOps.one rfl (One.buildSliceG (pv := []) (cs := []) (fun _ => []) rfl el43 .nil rfl rfl (by kernel_rfl) rfl rfl (fun b3 => ?_))
      refine SOps.st rfl rfl (Yv.assign rfl).yl ?_
      refine SOps.st rfl rfl (Yv.assign rfl).yl ?_
      refine SOps.st rfl rfl (Yv.assign rfl).yl ?_
      refine SOps.nil ?_
      refine Run.ret ?_
      refine retQ.of (.inr rfl) rfl (.tmp rfl (.tmp rfl (.tmp rfl .nil))) (fun w' hw' => ?_)
      rw [hz]; exact ⟨_, _, rfl, hw'.bel.below, hw'.ent _ (List.mem_of_getElem? (i := 0) rfl), fun g hg => (hw'.own _ (List.mem_of_getElem? (i := 0) rfl) g hg).elim id (by simp)⟩
    · try replace hc2 := of_decide_eq_false hc2
      have hz : bestOf ts js = ((bestGo ts js js.length []).1, (bestGo ts js js.length []).2, true) := by unfold bestOf; rw [if_pos hyes, if_neg hc2]
      refine Run.skip ?_
      refine Run.seq ?_
      refine Run.quiet (by intro h; cases h) ?_
      refine QOps.st rfl rfl (Yv.move rfl).yl ?_
      refine QOps.st rfl rfl (Yv.move rfl).yl ?_
      refine QOps.st rfl rfl (Yv.assign rfl).yl ?_
      refine QOps.st rfl rfl (Yv.assign rfl).yl ?_
      refine QOps.st rfl rfl (Yv.assign rfl).yl ?_
      refine QOps.nil ?_
      refine Run.ret ?_
      refine retQ.of (.inr rfl) rfl (.tmp rfl (.tmp rfl (.tmp rfl .nil))) (fun w' hw' => ?_)
      rw [hz]; exact ⟨_, _, rfl, hw'.bel.below, hw'.ent _ (List.mem_of_getElem? (i := 0) rfl), fun g hg => (hw'.own _ (List.mem_of_getElem? (i := 0) rfl) g hg).elim id (by simp)⟩
end Go.Proofs.Ytkkmmbogeeopaaa
