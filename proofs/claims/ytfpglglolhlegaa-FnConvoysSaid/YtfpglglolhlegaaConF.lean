/- Convoys: the even split of the reference, and the law. Conditions: none. -/
import Derived.Test.YtfpglglolhlegaaConE
namespace Go.Proofs.Ytfpglglolhlegaa
open Go.RowKit
set_option maxRecDepth 100000
theorem foldTo_len {f : Nat → EvB} {m : Nat} (hf : ∀ n, (f n).1.length ≤ m) : ∀ j, (foldTo f j).1.length ≤ m
  | 0 => by simp [foldTo]
  | j + 1 => by
    rw [foldTo]
    unfold comb
    split
    · exact hf _
    · exact foldTo_len hf j
theorem evenGo_len {p cl : Int} {l : List Int} : ∀ {k : Nat} {s : List Int}, (evenGo p l cl k s).1.length ≤ s.length + k
  | 0, s => by
    rw [evenGo]
    split
    · simp
    · split <;> simp
  | k + 1, s => by
    rw [evenGo]
    split
    · simp
    · refine foldTo_len (fun n => ?_) _
      have := evenGo_len (p := p) (l := l) (cl := cl) (k := k) (s := s ++ [(n : Int)])
      simp at this
      omega
theorem evenGo_some {p cl : Int} {l s o : List Int} {e k : Nat} (h : slacks p l cl s = some (o, e)) : evenGo p l cl (k + 1) s = foldTo (fun n => evenGo p l cl k (s ++ [(n : Int)])) (l.length - e) := by
  rw [evenGo, h]
theorem l19Squares_spec {w : World} {A : Option Addr} {c : Nat} {l : List Int} (hs : Sl w 1 A l.length c (l.flatMap intC)) (hl : l.length ≤ 1000) (hb : ∀ x ∈ l, 0 ≤ x ∧ x ≤ 20) :
    Calls Try.prog 82 #[.slice A l.length c] w (RetB w (.int .i64 (sqTo l l.length))) := by
  refine calls_of_run (vs := [_]) (L := [(0, _)]) (n := 23) (F := []) (H := []) Try.func82 rfl rfl rfl rfl (HOk.start _) ?_
  refine Run.seq ?_
  refine Run.quiet (by intro h; cases h) ?_
  refine QOps.st rfl rfl (Yv.assign rfl).yl ?_
  refine QOps.nil ?_
  refine Run.seq ?_
  refine Run.quiet (by intro h; cases h) ?_
  refine QOps.st rfl rfl (Yv.assign rfl).yl ?_
  refine QOps.nil ?_
  refine Run.seq ?_
  refine Run.seq ?_
  refine Run.quiet (by intro h; cases h) ?_
  refine QOps.st rfl rfl (Yv.assign rfl).yl ?_
  refine QOps.nil ?_
  refine Run.block ?_
  refine Run.loop (S := Nat) (fun s => match s with | k => k ≤ l.length) (fun s => match s with | k => [(0, .slice A l.length c), (3, .int .i64 (sqTo l k)), (4, .int .i64 (k : Int))]) (fun s => match s with | k => []) (fun s => match s with | k => l.length - k) 0 ?_ (SubE.cons rfl (SubE.cons rfl (SubE.cons rfl (SubE.nil _)))) (List.Sublist.refl _) ?_
  · exact Nat.zero_le _
  · rintro k hk
    show Run _ _ _ _ _ [(0, .slice A l.length c), (3, .int .i64 (sqTo l k)), (4, .int .i64 (k : Int))] [] _
    refine Run.seq ?_
    refine Run.seq ?_
    refine Run.quiet (by intro h; cases h) ?_
    refine QOps.st rfl rfl (Yv.move rfl).yl ?_
    refine QOps.st rfl rfl (Yv.move rfl).yl ?_
    refine QOps.st rfl rfl (Yv.lenS el22s rfl).yl ?_
    refine QOps.st rfl rfl (Yv.lss rfl rfl).yl ?_
    refine QOps.nil ?_
    refine Run.cond rfl (fun hc1 => ?_) (fun hc1 => ?_)
    · try replace hc1 := of_decide_eq_true hc1
      have hsq := sqTo_le hb (k := k) (by omega)
      have hsn := sqTo_nonneg (o := l) (k := k)
      have hx := hb (nth l k) (List.mem_of_getElem? (nth_get (by omega)))
      have hxx : nth l k * nth l k ≤ 20 * 20 := Int.mul_le_mul hx.2 hx.2 hx.1 (by omega)
      have hxx0 : 0 ≤ nth l k * nth l k := Int.mul_nonneg hx.1 hx.1
      refine Run.skip ?_
      refine Run.seq ?_
      refine Run.block ?_
      refine Run.quiet (fun _ => ⟨by kernel_rfl, by kernel_rfl⟩) ?_
      refine QOps.st rfl rfl (Yv.move rfl).yl ?_
      refine QOps.st rfl rfl (Yv.move rfl).yl ?_
      refine QOps.st rfl rfl (Yv.move rfl).yl ?_
      refine QOps.st rfl rfl (Yv.indexAddr k el22 rfl rfl rfl (Rd.arg hs) (by omega)).yl ?_
      refine QOps.st rfl rfl (Yv.loadE lay3 rfl intC_len (Rd.arg hs) (by first | omega | (simp; omega)) rfl).yl ?_
      refine QOps.st rfl rfl (Yv.move rfl).yl ?_
      refine QOps.st rfl rfl (Yv.move rfl).yl ?_
      refine QOps.st rfl rfl (Yv.indexAddr k el22 rfl rfl rfl (Rd.arg hs) (by omega)).yl ?_
      refine QOps.st rfl rfl (Yv.loadE lay3 rfl intC_len (Rd.arg hs) (by first | omega | (simp; omega)) rfl).yl ?_
      refine QOps.st rfl rfl (Yv.mul rfl rfl (by omega)).yl ?_
      refine QOps.st rfl rfl (Yv.add rfl rfl (by omega)).yl ?_
      refine QOps.st rfl rfl (Yv.assign rfl).yl ?_
      refine QOps.nil ?_
      refine Run.quiet (by intro h; cases h) ?_
      refine QOps.st rfl rfl (Yv.move rfl).yl ?_
      refine QOps.st rfl rfl (Yv.succN rfl rfl (by omega)).yl ?_
      refine QOps.st rfl rfl (Yv.assign rfl).yl ?_
      refine QOps.nil ?_
      refine ⟨k + 1, ?_, ?_, (SubE.cons rfl (SubE.cons rfl (SubE.cons rfl (SubE.nil _)))), (List.Sublist.refl _)⟩
      · show k + 1 ≤ _; omega
      · first | omega | (dsimp only; omega)
    · try replace hc1 := of_decide_eq_false hc1
      refine Run.exit ?_
      refine Run.seq ?_
      refine Run.quiet (by intro h; cases h) ?_
      refine QOps.st rfl rfl (Yv.move rfl).yl ?_
      refine QOps.st rfl rfl (Yv.assign rfl).yl ?_
      refine QOps.nil ?_
      refine Run.ret ?_
      obtain rfl : k = l.length := by omega
      refine retQ.of (.inr rfl) rfl (.tmp rfl .nil) (fun w' hw' => ?_)
      refine ⟨?_, hw'.bel.below⟩
      exact rfl
def LEvenOK (k : Nat) : Prop := ∀ (w : World) (G cs c : Nat) (As A : Option Addr) (p cl : Int) (l ps : List Int), validConvoy p l = true → 1 ≤ cl ∧ cl ≤ 20 → G ≤ 8 → ps.length + k = G →
  HOk w (blks [.row As cs 3 1 ps.length (ps.flatMap intC)]) [.row As cs 3 1 ps.length (ps.flatMap intC)] w → Sl w 1 A l.length c (l.flatMap intC) → (0 < l.length → (adr A).block ∉ blks [.row As cs 3 1 ps.length (ps.flatMap intC)]) →
  Calls Try.prog 71 #[.agg #[.int .i64 p, .slice A l.length c], .int .i64 cl, .int .i64 (G : Int), .slice As ps.length cs] w
    (RetH w [.row As cs 3 1 ps.length (ps.flatMap intC)] (fun (x : Option Addr × Nat) => [.row x.1 x.2 3 1 (evenGo p l cl k ps).1.length ((evenGo p l cl k ps).1.flatMap intC)]) (fun x => .tuple #[.slice x.1 (evenGo p l cl k ps).1.length x.2, .int .i64 (evenGo p l cl k ps).2]) (fun _ => True))
theorem leven_step {k : Nat} (ih : ∀ j, j < k → LEvenOK j) : LEvenOK k := by
  intro w G cs c As A p cl l ps hv hcl hG hsk hw hs hne
  obtain ⟨hp1, hp2, hl1, hl2, hbb⟩ := validConvoy_ok hv
  have hrl := slRow_len (s := ps) hp1 hcl.2 hbb
  have hri := slRow_in (s := ps) hp1 hcl.2 hbb
  refine calls_of_run (vs := [_, _, _, _]) (L := [(0, _), (1, _), (2, _), (3, _)]) (n := 79) (F := blks _) (H := _) Try.func71 rfl rfl rfl rfl hw ?_
  refine Run.seq ?_
  refine Run.ops ?_
  refine SOps.one rfl (One.box (cs := [_, _]) rfl rfl rfl (fun b1 => ?_))
  refine SOps.st rfl rfl (Yv.assign rfl).yl ?_
  refine SOps.st rfl rfl (Yv.assign rfl).yl ?_
  refine SOps.nil ?_
  refine Run.seq ?_
  refine Run.ops ?_
  refine SOps.st rfl rfl (Yv.loadBs (i := 0) lay27 rfl rfl rfl rfl).yl ?_
  refine SOps.st rfl rfl (Yv.move rfl).yl ?_
  refine SOps.st rfl rfl (Yv.move rfl).yl ?_
  refine SOps.one rfl (One.callRow rfl callable72 (.cons rfl (.cons rfl (.cons rfl (.nil)))) (fun w' hw' => l19Slacks_spec ((Rd.argN hs hne) w' hw') ((Rd.row (i := 1) rfl) w' hw') (by assumption) (by assumption) (by omega)) (fun A1 c1 => ?_))
  refine SOps.st rfl rfl (Yv.move rfl).yl ?_
  refine SOps.st rfl rfl (Yv.extract rfl rfl).yl ?_
  refine SOps.st rfl rfl (Yv.extract rfl rfl).yl ?_
  refine SOps.st rfl rfl (Yv.extract rfl rfl).yl ?_
  refine SOps.st rfl rfl (Yv.assign rfl).yl ?_
  refine SOps.st rfl rfl (Yv.assign rfl).yl ?_
  refine SOps.st rfl rfl (Yv.assign rfl).yl ?_
  refine SOps.nil ?_
  refine Run.seq ?_
  refine Run.seq ?_
  refine Run.quiet (by intro h; cases h) ?_
  refine QOps.st rfl rfl (Yv.move rfl).yl ?_
  refine QOps.st rfl rfl (Yv.not rfl).yl ?_
  refine QOps.nil ?_
  refine Run.cond rfl (fun hc1 => ?_) (fun hc1 => ?_)
  · try replace hc1 := of_decide_eq_true hc1
    have hE : evenGo p l cl k ps = ([], -1) := evenGo_none (by simpa using hc1)
    refine Run.seq ?_
    refine Run.ops ?_
    refine SOps.one rfl (One.buildSliceG (pv := []) (cs := []) (fun _ => []) rfl el22 .nil rfl rfl (by kernel_rfl) rfl rfl (fun b2 => ?_))
    refine SOps.st rfl rfl (Yv.assign rfl).yl ?_
    refine SOps.st rfl rfl (Yv.assign rfl).yl ?_
    refine SOps.nil ?_
    refine Run.ret ?_
    refine retQ.of (.inr rfl) rfl (.tmp rfl (.tmp rfl .nil)) (fun w' hw' => ?_)
    exact ⟨((some ⟨b2, 0, none⟩), 0), by rw [hE]; rfl, trivial, by rw [hE]; exact hw'.sub (List.Sublist.cons_cons _ (List.nil_sublist _))⟩
  · try replace hc1 := of_decide_eq_false hc1
    obtain ⟨o, e, hse⟩ : ∃ o e, slacks p l cl ps = some (o, e) := by
          cases h : slacks p l cl ps with
          | none => rw [h] at hc1; simp at hc1
          | some y => exact ⟨y.1, y.2, rfl⟩
    have hat : slAt (slacks p l cl ps) = (e : Int) := by rw [hse]; rfl
    have hro : slRow (slacks p l cl ps) = o := by rw [hse]; rfl
    have hel : e ≤ l.length := (slacksGo_in hp1 hcl.2 hbb hse).1
    refine Run.skip ?_
    refine Run.seq ?_
    refine Run.seq ?_
    refine Run.quiet (by intro h; cases h) ?_
    refine QOps.st rfl rfl (Yv.move rfl).yl ?_
    refine QOps.st rfl rfl (Yv.lenS el22s rfl).yl ?_
    refine QOps.st rfl rfl (Yv.move rfl).yl ?_
    refine QOps.st rfl rfl (Yv.eqI rfl rfl).yl ?_
    refine QOps.nil ?_
    refine Run.cond rfl (fun hc2 => ?_) (fun hc2 => ?_)
    · try replace hc2 := of_decide_eq_true hc2
      obtain rfl : k = 0 := by omega
      refine Run.seq ?_
      refine Run.seq ?_
      refine Run.quiet (by intro h; cases h) ?_
      refine QOps.st rfl rfl (Yv.move rfl).yl ?_
      refine QOps.st rfl rfl (Yv.fieldAddr fld27_1 rfl).yl ?_
      refine QOps.st rfl rfl (Yv.loadB (i := 1) lay22 rfl rfl rfl rfl).yl ?_
      refine QOps.st rfl rfl (Yv.lenS el22s rfl).yl ?_
      refine QOps.st rfl rfl (Yv.lss rfl rfl).yl ?_
      refine QOps.nil ?_
      refine Run.cond rfl (fun hc3 => ?_) (fun hc3 => ?_)
      · try replace hc3 := of_decide_eq_true hc3
        have hE : evenGo p l cl 0 ps = ([], -1) := by rw [evenGo, hse]; simp only; rw [if_pos (by omega)]
        refine Run.seq ?_
        refine Run.ops ?_
        refine SOps.one rfl (One.buildSliceG (pv := []) (cs := []) (fun _ => []) rfl el22 .nil rfl rfl (by kernel_rfl) rfl rfl (fun b3 => ?_))
        refine SOps.st rfl rfl (Yv.assign rfl).yl ?_
        refine SOps.st rfl rfl (Yv.assign rfl).yl ?_
        refine SOps.nil ?_
        refine Run.ret ?_
        refine retQ.of (.inr rfl) rfl (.tmp rfl (.tmp rfl .nil)) (fun w' hw' => ?_)
        exact ⟨((some ⟨b3, 0, none⟩), 0), by rw [hE]; rfl, trivial, by rw [hE]; exact hw'.sub (List.Sublist.cons_cons _ (List.nil_sublist _))⟩
      · try replace hc3 := of_decide_eq_false hc3
        have hE : evenGo p l cl 0 ps = (ps, sqTo (slRow (slacks p l cl ps)) (slRow (slacks p l cl ps)).length) := by rw [evenGo, hse]; simp only; rw [if_neg (by omega)]; rfl
        refine Run.skip ?_
        refine Run.seq ?_
        refine Run.quiet (by intro h; cases h) ?_
        refine QOps.st rfl rfl (Yv.move rfl).yl ?_
        refine QOps.st rfl rfl (Yv.move rfl).yl ?_
        refine QOps.st rfl rfl (Yl.call callable82 (.cons rfl (.nil)) (fun w' hw' => l19Squares_spec ((Rd.row (i := 0) rfl) w' hw') (by omega) (by assumption))) ?_
        refine QOps.st rfl rfl (Yv.assign rfl).yl ?_
        refine QOps.st rfl rfl (Yv.assign rfl).yl ?_
        refine QOps.nil ?_
        refine Run.ret ?_
        refine retQ.of (.inr rfl) rfl (.tmp rfl (.tmp rfl .nil)) (fun w' hw' => ?_)
        exact ⟨(As, cs), by rw [hE]; rfl, trivial, by rw [hE]; exact hw'.sub (List.Sublist.cons _ (List.Sublist.cons _ (List.Sublist.refl _)))⟩
    · try replace hc2 := of_decide_eq_false hc2
      obtain ⟨k, rfl⟩ : ∃ k', k = k' + 1 := ⟨k - 1, by omega⟩
      have hes := evenGo_some (k := k) hse
      refine Run.skip ?_
      refine Run.seq ?_
      refine Run.ops ?_
      refine SOps.one rfl (One.buildSliceG (pv := []) (cs := []) (fun _ => []) rfl el22 .nil rfl rfl (by kernel_rfl) rfl rfl (fun b4 => ?_))
      refine SOps.st rfl rfl (Yv.assign rfl).yl ?_
      refine SOps.st rfl rfl (Yv.assign rfl).yl ?_
      refine SOps.nil ?_
      refine Run.seq ?_
      refine Run.seq ?_
      refine Run.quiet (by intro h; cases h) ?_
      refine QOps.st rfl rfl (Yv.assign rfl).yl ?_
      refine QOps.nil ?_
      refine Run.block ?_
      refine Run.loop (S := Nat × List Int × Int × Option Addr × Nat) (fun s => match s with | (n, B, q, Ao, co) => 1 ≤ n ∧ n ≤ l.length - e + 1 ∧ foldTo (fun n => evenGo p l cl k (ps ++ [(n : Int)])) (n - 1) = (B, q)) (fun s => match s with | (n, B, q, Ao, co) => [(1, .int .i64 cl), (2, .int .i64 (G : Int)), (3, .slice As ps.length cs), (4, .pointer (some ⟨b1, 0, none⟩)), (11, .int .i64 (slAt (slacks p l cl ps))), (13, .slice Ao B.length co), (14, .int .i64 q), (15, .int .i64 (n : Int))]) (fun s => match s with | (n, B, q, Ao, co) => [.row Ao co 3 1 B.length (B.flatMap intC), .blk b1 27 [.int .i64 p, .slice A l.length c], .row As cs 3 1 ps.length (ps.flatMap intC)]) (fun s => match s with | (n, B, q, Ao, co) => l.length - e + 1 - n) (1, [], -1, _, _) ?_ (SubE.cons rfl (SubE.cons rfl (SubE.cons rfl (SubE.cons rfl (SubE.cons rfl (SubE.cons rfl (SubE.cons rfl (SubE.cons rfl (SubE.nil _))))))))) (List.Sublist.cons_cons _ (List.Sublist.cons _ (List.Sublist.refl _))) ?_
      · exact ⟨by omega, by omega, rfl⟩
      · rintro ⟨n, B, q, Ao, co⟩ ⟨hn1, hnm, hB⟩
        show Run _ _ _ _ _ [(1, .int .i64 cl), (2, .int .i64 (G : Int)), (3, .slice As ps.length cs), (4, .pointer (some ⟨b1, 0, none⟩)), (11, .int .i64 (slAt (slacks p l cl ps))), (13, .slice Ao B.length co), (14, .int .i64 q), (15, .int .i64 (n : Int))] [.row Ao co 3 1 B.length (B.flatMap intC), .blk b1 27 [.int .i64 p, .slice A l.length c], .row As cs 3 1 ps.length (ps.flatMap intC)] _
        refine Run.seq ?_
        refine Run.seq ?_
        refine Run.quiet (by intro h; cases h) ?_
        refine QOps.st rfl rfl (Yv.move rfl).yl ?_
        refine QOps.st rfl rfl (Yv.fieldAddr fld27_1 rfl).yl ?_
        refine QOps.st rfl rfl (Yv.loadB (i := 1) lay22 rfl rfl rfl rfl).yl ?_
        refine QOps.st rfl rfl (Yv.lenS el22s rfl).yl ?_
        refine QOps.st rfl rfl (Yv.move rfl).yl ?_
        refine QOps.st rfl rfl (Yv.sub rfl rfl (by omega)).yl ?_
        refine QOps.st rfl rfl (Yv.leq rfl rfl).yl ?_
        refine QOps.nil ?_
        refine Run.cond rfl (fun hc4 => ?_) (fun hc4 => ?_)
        · try replace hc4 := of_decide_eq_true hc4
          refine Run.skip ?_
          refine Run.seq ?_
          refine Run.block ?_
          refine Run.seq ?_
          refine Run.draws (fun H => H) (m := 14) (listed := #[false, false, false, false, false, false, false, false, false, false, false, false, false, false]) (by kernel_rfl) rfl rfl ?_
          refine DOps.take (listed' := #[true, false, false, false, false, false, false, false, false, false, false, false, false, false]) 0 rfl (by kernel_rfl) rfl (List.Sublist.refl _) rfl rfl (Yv.loadBs (i := 1) lay27 rfl rfl rfl rfl) ?_
          refine DOps.take (listed' := #[true, true, false, false, false, false, false, false, false, false, false, false, false, false]) 1 rfl (by kernel_rfl) rfl (List.Sublist.refl _) rfl rfl (Yv.move rfl) ?_
          refine DOps.take (listed' := #[true, true, true, false, false, false, false, false, false, false, false, false, false, false]) 2 rfl (by kernel_rfl) rfl (List.Sublist.refl _) rfl rfl (Yv.move rfl) ?_
          refine DOps.take (listed' := #[true, true, true, true, false, false, false, false, false, false, false, false, false, false]) 3 rfl (by kernel_rfl) rfl (List.Sublist.refl _) rfl rfl (Yv.move rfl) ?_
          refine DOps.take (listed' := #[true, true, true, true, false, true, false, false, false, false, false, false, false, false]) 5 rfl (by kernel_rfl) rfl (List.Sublist.refl _) rfl rfl (Yv.move rfl) ?_
          refine DOps.fork2 (l1 := #[true, true, true, true, true, true, false, false, false, false, false, false, false, false]) (l2 := #[true, true, true, true, false, true, true, false, false, false, false, false, false, false]) 4 6 rfl rfl (by kernel_rfl) rfl rfl rfl rfl ?_ ?_
          ·
            refine One.callRow rfl callable74 (.cons rfl (.nil)) (fun w' hw' => l1OwnN_spec (by first | rfl | (simp; done) | (simp; omega)) ((Rd.row (i := 2) rfl) w' hw') (by omega)) (fun A2 c2 => ?_)
            refine ⟨(List.Sublist.cons _ (List.Sublist.refl _)), ?_⟩
            refine DOps.only (listed' := #[true, true, true, true, true, true, true, false, false, false, false, false, false, false]) 6 rfl (by kernel_rfl) rfl rfl ?_
            refine One.buildSliceG (pv := [(0, _)]) (cs := [_]) (fun l => match l with | [a0_0] => [a0_0] | _ => []) rfl el22 (.cons rfl (.nil)) rfl rfl (by kernel_rfl) rfl rfl (fun b5 => ?_)
            refine ⟨(List.Sublist.cons _ (List.Sublist.cons _ (List.Sublist.refl _))), ?_⟩
            refine DOps.only (listed' := #[true, true, true, true, true, true, true, true, false, false, false, false, false, false]) 7 rfl (by kernel_rfl) rfl rfl ?_
            refine One.append (enc := intC) (l := ps) (l2 := [(n : Int)]) (m' := (ps ++ [(n : Int)]).length) (i := 1) (H' := fun A c => [_, _, _, _, _]) rfl el22 zero3 rfl (by decide) rfl rfl rfl (Rd.row (i := 0) rfl) (fun _ => rfl) (by simp) (by simp; omega) (by simp; omega) (fun _ _ => rfl) (fun A3 c3 => ?_)
            refine ⟨(List.Sublist.cons _ (List.Sublist.cons _ (List.Sublist.refl _))), ?_⟩
            refine DOps.only (listed' := #[true, true, true, true, true, true, true, true, true, false, false, false, false, false]) 8 rfl (by kernel_rfl) rfl rfl ?_
            refine One.callH (E := [_]) (H1 := [_, _, _, _]) rfl callable71 (.cons rfl (.cons rfl (.cons rfl (.cons rfl (.nil))))) [false, true, false, false, false] rfl rfl (fun w' hw' => ih k (Nat.lt_succ_self k) w' G _ c _ A p cl l (ps ++ [(n : Int)]) hv hcl hG (by simp; omega) hw'.lendL ((Rd.argN hs hne) w' hw') (fun hm => HOk.apartArg hw' hs hne (fun e he => List.mem_append_left _ he) hm)) ?_
            rintro ⟨Av1, cv1⟩ -
            refine ⟨(List.Sublist.cons _ (List.Sublist.cons_cons _ (List.Sublist.cons_cons _ (List.Sublist.cons_cons _ (List.nil_sublist _))))), ?_⟩
            refine DOps.take (listed' := #[true, true, true, true, true, true, true, true, true, true, false, false, false, false]) 9 rfl (by kernel_rfl) rfl (List.Sublist.cons _ (List.Sublist.cons_cons _ (List.Sublist.cons_cons _ (List.Sublist.cons_cons _ (List.nil_sublist _))))) rfl rfl (Yv.move rfl) ?_
            refine DOps.take (listed' := #[true, true, true, true, true, true, true, true, true, true, true, false, false, false]) 10 rfl (by kernel_rfl) rfl (List.Sublist.cons _ (List.Sublist.cons_cons _ (List.Sublist.cons_cons _ (List.Sublist.cons_cons _ (List.nil_sublist _))))) rfl rfl (Yv.extract rfl rfl) ?_
            refine DOps.take (listed' := #[true, true, true, true, true, true, true, true, true, true, true, true, false, false]) 11 rfl (by kernel_rfl) rfl (List.Sublist.cons _ (List.Sublist.cons_cons _ (List.Sublist.cons_cons _ (List.Sublist.cons_cons _ (List.nil_sublist _))))) rfl rfl (Yv.extract rfl rfl) ?_
            refine DOps.take (listed' := #[true, true, true, true, true, true, true, true, true, true, true, true, true, false]) 12 rfl (by kernel_rfl) rfl (List.Sublist.cons _ (List.Sublist.cons_cons _ (List.Sublist.cons_cons _ (List.Sublist.cons_cons _ (List.nil_sublist _))))) rfl rfl (Yv.assign rfl) ?_
            refine DOps.take (listed' := #[true, true, true, true, true, true, true, true, true, true, true, true, true, true]) 13 rfl (by kernel_rfl) rfl (List.Sublist.cons _ (List.Sublist.cons_cons _ (List.Sublist.cons_cons _ (List.Sublist.cons_cons _ (List.nil_sublist _))))) rfl rfl (Yv.assign rfl) ?_
            refine DOps.done (by kernel_rfl) ?_
            refine Run.seq ?_
            refine Run.perm (List.perm_middle (l₁ := [_, _, _, _]) (l₂ := [])) ?_
            refine Run.quiet (by intro h; cases h) ?_
            refine QOps.st rfl rfl (Yv.move rfl).yl ?_
            refine QOps.st rfl rfl (Yv.geq rfl rfl).yl ?_
            refine QOps.st rfl rfl (Yv.move rfl).yl ?_
            refine' QOps.and [_, _, _, _, _, _, _] _ (.tmp 73) rfl rfl rfl rfl rfl rfl (fun hg1 => ?_) ?_
            rotate_left
            · try replace hg1 := of_decide_eq_true hg1
              refine QOps.st rfl rfl (Yv.move rfl).yl ?_
              refine QOps.st rfl rfl (Yv.lss rfl rfl).yl ?_
              refine QOps.st rfl rfl (Yv.move rfl).yl ?_
              refine' QOps.or [_, _, _] _ (.tmp 72) rfl rfl rfl rfl rfl rfl (fun hg2 => ?_) ?_
              rotate_left
              · try replace hg2 := of_decide_eq_false hg2
                refine QOps.st rfl rfl (Yv.move rfl).yl ?_
                refine QOps.st rfl rfl (Yv.move rfl).yl ?_
                refine QOps.st rfl rfl (Yv.lss rfl rfl).yl ?_
                exact QOps.nil rfl
              exact QOps.nil rfl
            refine QOps.nil ?_
            refine Run.cond rfl (fun hc5 => ?_) (fun hc5 => ?_)
            · try replace hc5 := of_decide_eq_true hc5
              have hst : comb (B, q) (evenGo p l cl k (ps ++ [(n : Int)])) = evenGo p l cl k (ps ++ [(n : Int)]) := by
                    unfold comb; rw [if_pos (by simpa using hc5)]
              refine Run.seq ?_
              refine Run.quiet (by intro h; cases h) ?_
              refine QOps.st rfl rfl (Yv.move rfl).yl ?_
              refine QOps.st rfl rfl (Yv.assign rfl).yl ?_
              refine QOps.nil ?_
              refine Run.quiet (by intro h; cases h) ?_
              refine QOps.st rfl rfl (Yv.move rfl).yl ?_
              refine QOps.st rfl rfl (Yv.assign rfl).yl ?_
              refine QOps.nil ?_
              refine Run.quiet (by intro h; cases h) ?_
              refine QOps.st rfl rfl (Yv.move rfl).yl ?_
              refine QOps.st rfl rfl (Yv.succN rfl rfl (by omega)).yl ?_
              refine QOps.st rfl rfl (Yv.assign rfl).yl ?_
              refine QOps.nil ?_
              refine ⟨(n + 1, _, _, _, _), ?_, ?_, (SubE.cons rfl (SubE.cons rfl (SubE.cons rfl (SubE.cons rfl (SubE.cons rfl (SubE.cons rfl (SubE.cons rfl (SubE.cons rfl (SubE.nil _))))))))), (List.Sublist.cons_cons _ (List.Sublist.cons _ (List.Sublist.cons _ (List.Sublist.refl _))))⟩
              · exact ⟨by omega, by omega, by rw [show n + 1 - 1 = (n - 1) + 1 by omega, foldTo, hB, show n - 1 + 1 = n by omega, hst]⟩
              · first | omega | (dsimp only; omega)
            · try replace hc5 := of_decide_eq_false hc5
              have hst : comb (B, q) (evenGo p l cl k (ps ++ [(n : Int)])) = (B, q) := by
                    unfold comb; rw [if_neg (fun h => absurd (show (decide (0 ≤ (evenGo p l cl k (ps ++ [(n : Int)])).2) && (decide (q < 0) || decide ((evenGo p l cl k (ps ++ [(n : Int)])).2 < q))) = true by simpa using h) (by rw [hc5]; simp))]
              refine Run.skip ?_
              refine Run.quiet (by intro h; cases h) ?_
              refine QOps.st rfl rfl (Yv.move rfl).yl ?_
              refine QOps.st rfl rfl (Yv.succN rfl rfl (by omega)).yl ?_
              refine QOps.st rfl rfl (Yv.assign rfl).yl ?_
              refine QOps.nil ?_
              refine ⟨(n + 1, B, q, Ao, co), ?_, ?_, (SubE.cons rfl (SubE.cons rfl (SubE.cons rfl (SubE.cons rfl (SubE.cons rfl (SubE.cons rfl (SubE.cons rfl (SubE.cons rfl (SubE.nil _))))))))), (List.Sublist.cons _ (List.Sublist.cons _ (List.Sublist.refl _)))⟩
              · exact ⟨by omega, by omega, by rw [show n + 1 - 1 = (n - 1) + 1 by omega, foldTo, hB, show n - 1 + 1 = n by omega, hst]⟩
              · first | omega | (dsimp only; omega)
          ·
            refine One.buildSliceG (pv := [(0, _)]) (cs := [_]) (fun l => match l with | [a0_0] => [a0_0] | _ => []) rfl el22 (.cons rfl (.nil)) rfl rfl (by kernel_rfl) rfl rfl (fun b5 => ?_)
            refine ⟨(List.Sublist.cons _ (List.Sublist.refl _)), ?_⟩
            refine DOps.only (listed' := #[true, true, true, true, true, true, true, false, false, false, false, false, false, false]) 4 rfl (by kernel_rfl) rfl rfl ?_
            refine One.callRow rfl callable74 (.cons rfl (.nil)) (fun w' hw' => l1OwnN_spec (by first | rfl | (simp; done) | (simp; omega)) ((Rd.row (i := 3) rfl) w' hw') (by omega)) (fun A2 c2 => ?_)
            refine ⟨(List.Sublist.cons _ (List.Sublist.cons _ (List.Sublist.refl _))), ?_⟩
            refine DOps.only (listed' := #[true, true, true, true, true, true, true, true, false, false, false, false, false, false]) 7 rfl (by kernel_rfl) rfl rfl ?_
            refine One.append (enc := intC) (l := ps) (l2 := [(n : Int)]) (m' := (ps ++ [(n : Int)]).length) (i := 0) (H' := fun A c => [_, _, _, _, _]) rfl el22 zero3 rfl (by decide) rfl rfl rfl (Rd.row (i := 1) rfl) (fun _ => rfl) (by simp) (by simp; omega) (by simp; omega) (fun _ _ => rfl) (fun A3 c3 => ?_)
            refine ⟨(List.Sublist.cons _ (List.Sublist.cons _ (List.Sublist.refl _))), ?_⟩
            refine DOps.only (listed' := #[true, true, true, true, true, true, true, true, true, false, false, false, false, false]) 8 rfl (by kernel_rfl) rfl rfl ?_
            refine One.callH (E := [_]) (H1 := [_, _, _, _]) rfl callable71 (.cons rfl (.cons rfl (.cons rfl (.cons rfl (.nil))))) [true, false, false, false, false] rfl rfl (fun w' hw' => ih k (Nat.lt_succ_self k) w' G _ c _ A p cl l (ps ++ [(n : Int)]) hv hcl hG (by simp; omega) hw'.lendL ((Rd.argN hs hne) w' hw') (fun hm => HOk.apartArg hw' hs hne (fun e he => List.mem_append_left _ he) hm)) ?_
            rintro ⟨Av1, cv1⟩ -
            refine ⟨(List.Sublist.cons _ (List.Sublist.cons_cons _ (List.Sublist.cons_cons _ (List.Sublist.cons_cons _ (List.nil_sublist _))))), ?_⟩
            refine DOps.take (listed' := #[true, true, true, true, true, true, true, true, true, true, false, false, false, false]) 9 rfl (by kernel_rfl) rfl (List.Sublist.cons _ (List.Sublist.cons_cons _ (List.Sublist.cons_cons _ (List.Sublist.cons_cons _ (List.nil_sublist _))))) rfl rfl (Yv.move rfl) ?_
            refine DOps.take (listed' := #[true, true, true, true, true, true, true, true, true, true, true, false, false, false]) 10 rfl (by kernel_rfl) rfl (List.Sublist.cons _ (List.Sublist.cons_cons _ (List.Sublist.cons_cons _ (List.Sublist.cons_cons _ (List.nil_sublist _))))) rfl rfl (Yv.extract rfl rfl) ?_
            refine DOps.take (listed' := #[true, true, true, true, true, true, true, true, true, true, true, true, false, false]) 11 rfl (by kernel_rfl) rfl (List.Sublist.cons _ (List.Sublist.cons_cons _ (List.Sublist.cons_cons _ (List.Sublist.cons_cons _ (List.nil_sublist _))))) rfl rfl (Yv.extract rfl rfl) ?_
            refine DOps.take (listed' := #[true, true, true, true, true, true, true, true, true, true, true, true, true, false]) 12 rfl (by kernel_rfl) rfl (List.Sublist.cons _ (List.Sublist.cons_cons _ (List.Sublist.cons_cons _ (List.Sublist.cons_cons _ (List.nil_sublist _))))) rfl rfl (Yv.assign rfl) ?_
            refine DOps.take (listed' := #[true, true, true, true, true, true, true, true, true, true, true, true, true, true]) 13 rfl (by kernel_rfl) rfl (List.Sublist.cons _ (List.Sublist.cons_cons _ (List.Sublist.cons_cons _ (List.Sublist.cons_cons _ (List.nil_sublist _))))) rfl rfl (Yv.assign rfl) ?_
            refine DOps.done (by kernel_rfl) ?_
            refine Run.seq ?_
            refine Run.perm (List.perm_middle (l₁ := [_, _, _, _]) (l₂ := [])) ?_
            refine Run.quiet (by intro h; cases h) ?_
            refine QOps.st rfl rfl (Yv.move rfl).yl ?_
            refine QOps.st rfl rfl (Yv.geq rfl rfl).yl ?_
            refine QOps.st rfl rfl (Yv.move rfl).yl ?_
            refine' QOps.and [_, _, _, _, _, _, _] _ (.tmp 73) rfl rfl rfl rfl rfl rfl (fun hg1 => ?_) ?_
            rotate_left
            · try replace hg1 := of_decide_eq_true hg1
              refine QOps.st rfl rfl (Yv.move rfl).yl ?_
              refine QOps.st rfl rfl (Yv.lss rfl rfl).yl ?_
              refine QOps.st rfl rfl (Yv.move rfl).yl ?_
              refine' QOps.or [_, _, _] _ (.tmp 72) rfl rfl rfl rfl rfl rfl (fun hg2 => ?_) ?_
              rotate_left
              · try replace hg2 := of_decide_eq_false hg2
                refine QOps.st rfl rfl (Yv.move rfl).yl ?_
                refine QOps.st rfl rfl (Yv.move rfl).yl ?_
                refine QOps.st rfl rfl (Yv.lss rfl rfl).yl ?_
                exact QOps.nil rfl
              exact QOps.nil rfl
            refine QOps.nil ?_
            refine Run.cond rfl (fun hc5 => ?_) (fun hc5 => ?_)
            · try replace hc5 := of_decide_eq_true hc5
              have hst : comb (B, q) (evenGo p l cl k (ps ++ [(n : Int)])) = evenGo p l cl k (ps ++ [(n : Int)]) := by
                    unfold comb; rw [if_pos (by simpa using hc5)]
              refine Run.seq ?_
              refine Run.quiet (by intro h; cases h) ?_
              refine QOps.st rfl rfl (Yv.move rfl).yl ?_
              refine QOps.st rfl rfl (Yv.assign rfl).yl ?_
              refine QOps.nil ?_
              refine Run.quiet (by intro h; cases h) ?_
              refine QOps.st rfl rfl (Yv.move rfl).yl ?_
              refine QOps.st rfl rfl (Yv.assign rfl).yl ?_
              refine QOps.nil ?_
              refine Run.quiet (by intro h; cases h) ?_
              refine QOps.st rfl rfl (Yv.move rfl).yl ?_
              refine QOps.st rfl rfl (Yv.succN rfl rfl (by omega)).yl ?_
              refine QOps.st rfl rfl (Yv.assign rfl).yl ?_
              refine QOps.nil ?_
              refine ⟨(n + 1, _, _, _, _), ?_, ?_, (SubE.cons rfl (SubE.cons rfl (SubE.cons rfl (SubE.cons rfl (SubE.cons rfl (SubE.cons rfl (SubE.cons rfl (SubE.cons rfl (SubE.nil _))))))))), (List.Sublist.cons_cons _ (List.Sublist.cons _ (List.Sublist.cons _ (List.Sublist.refl _))))⟩
              · exact ⟨by omega, by omega, by rw [show n + 1 - 1 = (n - 1) + 1 by omega, foldTo, hB, show n - 1 + 1 = n by omega, hst]⟩
              · first | omega | (dsimp only; omega)
            · try replace hc5 := of_decide_eq_false hc5
              have hst : comb (B, q) (evenGo p l cl k (ps ++ [(n : Int)])) = (B, q) := by
                    unfold comb; rw [if_neg (fun h => absurd (show (decide (0 ≤ (evenGo p l cl k (ps ++ [(n : Int)])).2) && (decide (q < 0) || decide ((evenGo p l cl k (ps ++ [(n : Int)])).2 < q))) = true by simpa using h) (by rw [hc5]; simp))]
              refine Run.skip ?_
              refine Run.quiet (by intro h; cases h) ?_
              refine QOps.st rfl rfl (Yv.move rfl).yl ?_
              refine QOps.st rfl rfl (Yv.succN rfl rfl (by omega)).yl ?_
              refine QOps.st rfl rfl (Yv.assign rfl).yl ?_
              refine QOps.nil ?_
              refine ⟨(n + 1, B, q, Ao, co), ?_, ?_, (SubE.cons rfl (SubE.cons rfl (SubE.cons rfl (SubE.cons rfl (SubE.cons rfl (SubE.cons rfl (SubE.cons rfl (SubE.cons rfl (SubE.nil _))))))))), (List.Sublist.cons _ (List.Sublist.cons _ (List.Sublist.refl _)))⟩
              · exact ⟨by omega, by omega, by rw [show n + 1 - 1 = (n - 1) + 1 by omega, foldTo, hB, show n - 1 + 1 = n by omega, hst]⟩
              · first | omega | (dsimp only; omega)
        · try replace hc4 := of_decide_eq_false hc4
          obtain rfl : n = l.length - e + 1 := by omega
          have hE : evenGo p l cl (k + 1) ps = (B, q) := by rw [hes]; exact hB
          refine Run.exit ?_
          refine Run.seq ?_
          refine Run.quiet (by intro h; cases h) ?_
          refine QOps.st rfl rfl (Yv.move rfl).yl ?_
          refine QOps.st rfl rfl (Yv.move rfl).yl ?_
          refine QOps.st rfl rfl (Yv.assign rfl).yl ?_
          refine QOps.st rfl rfl (Yv.assign rfl).yl ?_
          refine QOps.nil ?_
          refine Run.ret ?_
          refine retQ.of (.inr rfl) rfl (.tmp rfl (.tmp rfl .nil)) (fun w' hw' => ?_)
          exact ⟨(Ao, co), by rw [hE]; rfl, trivial, by rw [hE]; exact hw'.sub (List.Sublist.cons_cons _ (List.nil_sublist _))⟩
theorem leven_spec : ∀ k, LEvenOK k := fun k => Nat.strongRecOn k fun _ ih => leven_step ih
theorem evenOf_len {p cl : Int} {l : List Int} : (evenOf p l cl).1.length ≤ l.length := by
  unfold evenOf
  split
  · have h1 := evenGo_len (p := p) (l := l) (cl := cl) (k := (greedyOf p l cl).1.length) (s := [])
    have h2 := greedyOf_len (p := p) (l := l) (cl := cl)
    simp at h1 ⊢
    omega
  · simp
theorem sEvenSplit_spec {w : World} {A : Option Addr} {c : Nat} {p cl : Int} {l : List Int} (hs : Sl w 1 A l.length c (l.flatMap intC)) :
    Calls Try.prog 30 #[.agg #[.int .i64 p, .slice A l.length c], .int .i64 cl] w (RetRow w 3 1 (evenOf p l cl).1.length ((evenOf p l cl).1.flatMap intC) (fun v => .tuple #[v, .bool (evenOf p l cl).2])) := by
  have hgl := greedyOf_len (p := p) (l := l) (cl := cl)
  refine calls_of_run (vs := [_, _]) (L := [(0, _), (1, _)]) (n := 38) (F := []) (H := []) Try.func30 rfl rfl rfl rfl (HOk.start _) ?_
  refine Run.seq ?_
  refine Run.ops ?_
  refine SOps.one rfl (One.box (cs := [_, _]) rfl rfl rfl (fun b1 => ?_))
  refine SOps.st rfl rfl (Yv.assign rfl).yl ?_
  refine SOps.st rfl rfl (Yv.assign rfl).yl ?_
  refine SOps.nil ?_
  refine Run.seq ?_
  refine Run.seq ?_
  refine Run.quiet (by intro h; cases h) ?_
  refine QOps.st rfl rfl (Yv.loadBs (i := 0) lay27 rfl rfl rfl rfl).yl ?_
  refine QOps.st rfl rfl (Yl.call callable54 (.cons rfl (.nil)) (fun w' hw' => l19Good_spec ((Rd.arg hs) w' hw'))) ?_
  refine QOps.st rfl rfl (Yv.not rfl).yl ?_
  refine QOps.st rfl rfl (Yv.move rfl).yl ?_
  refine' QOps.or [_, _, _] _ (.tmp 16) rfl rfl rfl rfl rfl rfl (fun hg1 => ?_) ?_
  rotate_left
  · try replace hg1 := of_decide_eq_false hg1
    refine QOps.st rfl rfl (Yv.move rfl).yl ?_
    refine QOps.st rfl rfl (Yl.call callable67 (.cons rfl (.nil)) (fun w' hw' => l19Length_spec)) ?_
    refine QOps.st rfl rfl (Yv.not rfl).yl ?_
    exact QOps.nil rfl
  refine QOps.nil ?_
  refine Run.cond rfl (fun hc1 => ?_) (fun hc1 => ?_)
  · try replace hc1 := of_decide_eq_true hc1
    have hn : ¬ (validConvoy p l && inB cl 1 20) = true := by revert hc1; cases validConvoy p l <;> cases inB cl 1 20 <;> simp
    have hz : evenOf p l cl = ([], false) := by unfold evenOf greedyOf; rw [if_neg hn]; rfl
    refine Run.seq ?_
    refine Run.ops ?_
    refine SOps.one rfl (One.buildSliceG (pv := []) (cs := []) (fun _ => []) rfl el22 .nil rfl rfl (by kernel_rfl) rfl rfl (fun b2 => ?_))
    refine SOps.st rfl rfl (Yv.assign rfl).yl ?_
    refine SOps.st rfl rfl (Yv.assign rfl).yl ?_
    refine SOps.nil ?_
    refine Run.ret ?_
    refine retQ.of (.inr rfl) rfl (.tmp rfl (.tmp rfl .nil)) (fun w' hw' => ?_)
    rw [hz]; exact ⟨_, _, rfl, hw'.bel.below, hw'.ent _ (List.mem_of_getElem? (i := 0) rfl), fun g hg => (hw'.own _ (List.mem_of_getElem? (i := 0) rfl) g hg).elim id (by simp)⟩
  · try replace hc1 := of_decide_eq_false hc1
    have hgy : (validConvoy p l && inB cl 1 20) = true := by revert hc1; cases validConvoy p l <;> cases inB cl 1 20 <;> simp
    have hgo : greedyOf p l cl = greedy p l cl := by unfold greedyOf; rw [if_pos hgy]
    rw [hgo] at hgl
    simp only [Bool.and_eq_true] at hgy
    obtain ⟨hv, hg1⟩ := hgy
    have hcl := inB_iff.1 hg1
    obtain ⟨hp1, hp2, hl1, hl2, hbb⟩ := validConvoy_ok hv
    refine Run.skip ?_
    refine Run.seq ?_
    refine Run.ops ?_
    refine SOps.st rfl rfl (Yv.loadBs (i := 0) lay27 rfl rfl rfl rfl).yl ?_
    refine SOps.st rfl rfl (Yv.move rfl).yl ?_
    refine SOps.one rfl (One.callRow rfl callable68 (.cons rfl (.cons rfl (.nil))) (fun w' hw' => l19Greedy_spec ((Rd.arg hs) w' hw') (by assumption) (by omega)) (fun A1 c1 => ?_))
    refine SOps.st rfl rfl (Yv.move rfl).yl ?_
    refine SOps.st rfl rfl (Yv.extract rfl rfl).yl ?_
    refine SOps.st rfl rfl (Yv.extract rfl rfl).yl ?_
    refine SOps.st rfl rfl (Yv.assign rfl).yl ?_
    refine SOps.st rfl rfl (Yv.assign rfl).yl ?_
    refine SOps.nil ?_
    refine Run.seq ?_
    refine Run.seq ?_
    refine Run.quiet (by intro h; cases h) ?_
    refine QOps.st rfl rfl (Yv.move rfl).yl ?_
    refine QOps.st rfl rfl (Yv.not rfl).yl ?_
    refine QOps.nil ?_
    refine Run.cond rfl (fun hc2 => ?_) (fun hc2 => ?_)
    · try replace hc2 := of_decide_eq_true hc2
      have hz : evenOf p l cl = ([], false) := by unfold evenOf; rw [hgo, if_neg (by simpa using hc2)]
      refine Run.seq ?_
      refine Run.ops ?_
      refine SOps.one rfl (One.buildSliceG (pv := []) (cs := []) (fun _ => []) rfl el22 .nil rfl rfl (by kernel_rfl) rfl rfl (fun b3 => ?_))
      refine SOps.st rfl rfl (Yv.assign rfl).yl ?_
      refine SOps.st rfl rfl (Yv.assign rfl).yl ?_
      refine SOps.nil ?_
      refine Run.ret ?_
      refine retQ.of (.inr rfl) rfl (.tmp rfl (.tmp rfl .nil)) (fun w' hw' => ?_)
      rw [hz]; exact ⟨_, _, rfl, hw'.bel.below, hw'.ent _ (List.mem_of_getElem? (i := 0) rfl), fun g hg => (hw'.own _ (List.mem_of_getElem? (i := 0) rfl) g hg).elim id (by simp)⟩
    · try replace hc2 := of_decide_eq_false hc2
      have hz : evenOf p l cl = ((evenGo p l cl (greedy p l cl).1.length []).1, true) := by unfold evenOf; rw [hgo, if_pos (by simpa using hc2)]
      refine Run.skip ?_
      refine Run.seq ?_
      refine Run.ops ?_
      refine SOps.st rfl rfl (Yv.loadBs (i := 1) lay27 rfl rfl rfl rfl).yl ?_
      refine SOps.st rfl rfl (Yv.move rfl).yl ?_
      refine SOps.st rfl rfl (Yv.move rfl).yl ?_
      refine SOps.st rfl rfl (Yv.lenS el22s rfl).yl ?_
      refine SOps.one rfl (One.buildSliceG (pv := []) (cs := []) (fun _ => []) rfl el22 .nil rfl rfl (by kernel_rfl) rfl rfl (fun b4 => ?_))
      refine SOps.one rfl (One.callH (E := [_]) (H1 := [_, _]) rfl callable71 (.cons rfl (.cons rfl (.cons rfl (.cons rfl (.nil))))) [true, false, false] rfl rfl (fun w' hw' => leven_spec (greedy p l cl).1.length w' (greedy p l cl).1.length 0 c (some ⟨b4, 0, none⟩) A p cl l [] hv hcl (by omega) (by simp) hw'.lendL ((Rd.arg hs) w' hw') (fun hm => HOk.apartArg hw' hs (by simp) (fun e he => List.mem_append_left _ he) hm)) ?_)
      rintro ⟨Av1, cv1⟩ -
      refine SOps.st rfl rfl (Yv.move rfl).yl ?_
      refine SOps.st rfl rfl (Yv.extract rfl rfl).yl ?_
      refine SOps.st rfl rfl (Yv.extract rfl rfl).yl ?_
      refine SOps.st rfl rfl (Yv.assign rfl).yl ?_
      refine SOps.st rfl rfl (Yv.assign rfl).yl ?_
      refine SOps.nil ?_
      refine Run.seq ?_
      refine Run.quiet (by intro h; cases h) ?_
      refine QOps.st rfl rfl (Yv.move rfl).yl ?_
      refine QOps.st rfl rfl (Yv.assign rfl).yl ?_
      refine QOps.st rfl rfl (Yv.assign rfl).yl ?_
      refine QOps.nil ?_
      refine Run.ret ?_
      refine retQ.of (.inr rfl) rfl (.tmp rfl (.tmp rfl .nil)) (fun w' hw' => ?_)
      rw [hz]; exact ⟨_, _, rfl, hw'.bel.below, hw'.ent _ (List.mem_of_getElem? (i := 2) rfl), fun g hg => (hw'.own _ (List.mem_of_getElem? (i := 2) rfl) g hg).elim id (by simp)⟩
theorem FnExactEvenSplit_spec {w : World} {A : Option Addr} {c : Nat} {p cl : Int} {l : List Int} (hs : Sl w 1 A l.length c (l.flatMap intC)) (hb : 8 * l.length ≤ 281474976710656) :
    Calls Try.prog 13 #[.agg #[.int .i64 p, .slice A l.length c], .int .i64 cl] w (RetB w (.bool true)) := by
  have hgl := evenOf_len (p := p) (l := l) (cl := cl)
  refine calls_of_run (vs := [_, _]) (L := [(0, _), (1, _)]) (n := 101) (F := []) (H := []) Try.func13 rfl rfl rfl rfl (HOk.start _) ?_
  refine Run.seq ?_
  refine Run.ops ?_
  refine SOps.one rfl (One.box (cs := [_, _]) rfl rfl rfl (fun b1 => ?_))
  refine SOps.st rfl rfl (Yv.assign rfl).yl ?_
  refine SOps.nil ?_
  refine Run.seq ?_
  refine Run.quiet (by intro h; cases h) ?_
  refine QOps.st rfl rfl (Yv.assign rfl).yl ?_
  refine QOps.nil ?_
  refine Run.seq ?_
  refine Run.quiet (by intro h; cases h) ?_
  refine QOps.st rfl rfl (Yv.loadBs (i := 0) lay24 rfl rfl rfl rfl).yl ?_
  refine QOps.st rfl rfl (Yv.move rfl).yl ?_
  refine QOps.st rfl rfl (Yl.call callable15 (.cons rfl (.cons rfl (.nil))) (fun w' hw' => szConvoy_spec (by omega) (by omega) (by omega))) ?_
  refine QOps.st rfl rfl (Yv.assign rfl).yl ?_
  refine QOps.nil ?_
  refine Run.seq ?_
  refine Run.seq ?_
  refine Run.quiet (by intro h; cases h) ?_
  refine QOps.st rfl rfl (Yv.move rfl).yl ?_
  refine QOps.st rfl rfl (Yv.lss rfl rfl).yl ?_
  refine QOps.nil ?_
  refine Run.cond rfl (fun hc1 => ?_) (fun hc1 => ?_)
  · try replace hc1 := of_decide_eq_true hc1
    refine Run.seq ?_
    refine Run.quiet (by intro h; cases h) ?_
    refine QOps.st rfl rfl (Yv.assign rfl).yl ?_
    refine QOps.nil ?_
    refine Run.ret ?_
    refine retQ.of (.inr rfl) rfl (.tmp rfl .nil) (fun w' hw' => ?_)
    refine ⟨?_, hw'.bel.below⟩
    exact rfl
  · try replace hc1 := of_decide_eq_false hc1
    have hn1 : l.length ≤ 1048576 := by split at hc1 <;> omega
    refine Run.skip ?_
    refine Run.seq ?_
    refine Run.ops ?_
    refine SOps.st rfl rfl (Yv.loadBs (i := 0) lay24 rfl rfl rfl rfl).yl ?_
    refine SOps.one rfl (One.callRow rfl callable17 (.cons rfl (.nil)) (fun w' hw' => toConvoy_spec ((Rd.arg hs) w' hw') (by omega)) (fun A1 c1 => ?_))
    refine SOps.st rfl rfl (Yv.move rfl).yl ?_
    refine SOps.one rfl (One.callRow rfl callable30 (.cons rfl (.cons rfl (.nil))) (fun w' hw' => sEvenSplit_spec ((Rd.row (i := 0) rfl) w' hw')) (fun A2 c2 => ?_))
    refine SOps.st rfl rfl (Yv.move rfl).yl ?_
    refine SOps.st rfl rfl (Yv.extract rfl rfl).yl ?_
    refine SOps.st rfl rfl (Yv.extract rfl rfl).yl ?_
    refine SOps.st rfl rfl (Yv.assign rfl).yl ?_
    refine SOps.st rfl rfl (Yv.assign rfl).yl ?_
    refine SOps.nil ?_
    refine Run.seq ?_
    refine Run.ops ?_
    refine SOps.st rfl rfl (Yv.loadBs (i := 2) lay24 rfl rfl rfl rfl).yl ?_
    refine SOps.one rfl (One.callRow rfl callable17 (.cons rfl (.nil)) (fun w' hw' => toConvoy_spec ((Rd.arg hs) w' hw') (by omega)) (fun A3 c3 => ?_))
    refine SOps.one rfl (One.alloc rfl zero27 (fun b2 => ?_))
    refine SOps.one rfl (One.store (i := 0) (off := 0) (vs := [_, _]) (cs' := [_, _]) (H' := [_, _, _, _, _]) lay27 rfl rfl rfl rfl rfl rfl rfl rfl rfl rfl ?_)
    refine SOps.nil ?_
    refine Run.seq ?_
    refine Run.ops ?_
    refine SOps.st rfl rfl (Yv.loadBs (i := 0) lay27 rfl rfl rfl rfl).yl ?_
    refine SOps.st rfl rfl (Yv.move rfl).yl ?_
    refine SOps.one rfl (One.callRow rfl callable29 (.cons rfl (.cons rfl (.nil))) (fun w' hw' => EvenSplit_spec ((Rd.row (i := 1) rfl) w' hw')) (fun A4 c4 => ?_))
    refine SOps.st rfl rfl (Yv.move rfl).yl ?_
    refine SOps.st rfl rfl (Yv.extract rfl rfl).yl ?_
    refine SOps.st rfl rfl (Yv.extract rfl rfl).yl ?_
    refine SOps.st rfl rfl (Yv.assign rfl).yl ?_
    refine SOps.st rfl rfl (Yv.assign rfl).yl ?_
    refine SOps.nil ?_
    refine Run.seq ?_
    refine Run.seq ?_
    refine Run.quiet (by intro h; cases h) ?_
    refine QOps.st rfl rfl (Yv.move rfl).yl ?_
    refine QOps.st rfl rfl (Yv.move rfl).yl ?_
    refine QOps.st rfl rfl (Yl.call callable42 (.cons rfl (.cons rfl (.nil))) (fun w' hw' => eqIntS_spec ((Rd.row (i := 0) rfl) w' hw') ((Rd.row (i := 3) rfl) w' hw'))) ?_
    refine QOps.st rfl rfl (Yv.not rfl).yl ?_
    refine QOps.st rfl rfl (Yv.move rfl).yl ?_
    refine' QOps.or [_, _, _] _ (.tmp 43) rfl rfl rfl rfl rfl rfl (fun hg1 => ?_) ?_
    rotate_left
    · try replace hg1 := of_decide_eq_false hg1
      refine QOps.st rfl rfl (Yv.move rfl).yl ?_
      refine QOps.st rfl rfl (Yv.move rfl).yl ?_
      refine QOps.st rfl rfl (Yv.neB bool4 rfl rfl).yl ?_
      exact QOps.nil rfl
    refine QOps.nil ?_
    refine Run.cond rfl (fun hc2 => ?_) (fun hc2 => ?_)
    · exfalso
      first | (simp at hc2; done) | (simp at hc2; omega) | omega
    · try replace hc2 := of_decide_eq_false hc2
      refine Run.skip ?_
      refine Run.seq ?_
      refine Run.seq ?_
      refine Run.draws (fun H => H) (m := 5) (listed := #[false, false, false, false, false]) (by kernel_rfl) rfl rfl ?_
      refine DOps.take (listed' := #[true, false, false, false, false]) 0 rfl (by kernel_rfl) rfl (List.Sublist.refl _) rfl rfl (Yv.loadBs (i := 1) lay27 rfl rfl rfl rfl) ?_
      refine DOps.take (listed' := #[true, true, false, false, false]) 1 rfl (by kernel_rfl) rfl (List.Sublist.refl _) rfl rfl (Yv.loadBs (i := 5) lay24 rfl rfl rfl rfl) ?_
      refine DOps.only (listed' := #[true, true, true, false, false]) 2 rfl (by kernel_rfl) rfl rfl ?_
      refine One.callRow rfl callable17 (.cons rfl (.nil)) (fun w' hw' => toConvoy_spec ((Rd.arg hs) w' hw') (by omega)) (fun A5 c5 => ?_)
      refine ⟨(List.Sublist.cons _ (List.Sublist.refl _)), ?_⟩
      refine DOps.only (listed' := #[true, true, true, true, false]) 3 rfl (by kernel_rfl) rfl rfl ?_
      refine One.st rfl (Yl.call callable19 (.cons rfl (.cons rfl (.nil))) (fun w' hw' => eqConvoy_spec ((Rd.row (i := 3) rfl) w' hw') ((Rd.row (i := 0) rfl) w' hw'))) ?_
      refine ⟨(List.Sublist.cons _ (List.Sublist.refl _)), ?_⟩
      refine DOps.take (listed' := #[true, true, true, true, true]) 4 rfl (by kernel_rfl) rfl (List.Sublist.cons _ (List.Sublist.refl _)) rfl rfl (Yv.not rfl) ?_
      refine DOps.done (by kernel_rfl) ?_
      refine Run.cond rfl (fun hc3 => ?_) (fun hc3 => ?_)
      · exfalso
        first | (simp at hc3; done) | (simp at hc3; omega) | omega
      · try replace hc3 := of_decide_eq_false hc3
        refine Run.skip ?_
        refine Run.seq ?_
        refine Run.quiet (by intro h; cases h) ?_
        refine QOps.st rfl rfl (Yv.assign rfl).yl ?_
        refine QOps.nil ?_
        refine Run.seq ?_
        refine Run.ops ?_
        refine SOps.st rfl rfl (Yv.loadBs (i := 2) lay27 rfl rfl rfl rfl).yl ?_
        refine SOps.st rfl rfl (Yv.move rfl).yl ?_
        refine SOps.one rfl (One.callMut (i := 3) (H' := [_, _, _, _, _, _, _]) rfl callable38 (.cons rfl (.cons rfl (.nil))) rfl (fun w' hw' => markConvoy_spec (hw'.ent _ (List.mem_of_getElem? (i := 3) rfl)) (by omega) (by omega) (by omega)) rfl ?_)
        refine SOps.st rfl rfl (Yv.assign rfl).yl ?_
        refine SOps.nil ?_
        refine Run.seq ?_
        refine Run.seq ?_
        refine Run.quiet (by intro h; cases h) ?_
        refine QOps.st rfl rfl (Yv.move rfl).yl ?_
        refine QOps.st rfl rfl (Yv.lss rfl rfl).yl ?_
        refine QOps.st rfl rfl (Yv.move rfl).yl ?_
        refine' QOps.or [_, _, _, _] _ (.tmp 59) rfl rfl rfl rfl rfl rfl (fun hg2 => ?_) ?_
        rotate_left
        · try replace hg2 := of_decide_eq_false hg2
          refine QOps.st rfl rfl (Yv.move rfl).yl ?_
          refine QOps.st rfl rfl (Yv.move rfl).yl ?_
          refine QOps.st rfl rfl (Yl.call callable42 (.cons rfl (.cons rfl (.nil))) (fun w' hw' => eqIntS_spec ((Rd.row (i := 1) rfl) w' hw') ((Rd.row (i := 4) rfl) w' hw'))) ?_
          refine QOps.st rfl rfl (Yv.not rfl).yl ?_
          exact QOps.nil rfl
        refine QOps.st rfl rfl (Yv.move rfl).yl ?_
        refine' QOps.or [_, _, _] _ (.tmp 64) rfl rfl rfl rfl rfl rfl (fun hg3 => ?_) ?_
        rotate_left
        · try replace hg3 := of_decide_eq_false hg3
          refine QOps.st rfl rfl (Yv.move rfl).yl ?_
          refine QOps.st rfl rfl (Yv.move rfl).yl ?_
          refine QOps.st rfl rfl (Yv.neB bool4 rfl rfl).yl ?_
          exact QOps.nil rfl
        refine QOps.nil ?_
        refine Run.cond rfl (fun hc4 => ?_) (fun hc4 => ?_)
        · exfalso
          first | (simp at hc4; done) | (simp at hc4; omega) | omega
        · try replace hc4 := of_decide_eq_false hc4
          refine Run.skip ?_
          refine Run.seq ?_
          refine Run.quiet (by intro h; cases h) ?_
          refine QOps.st rfl rfl (Yv.assign rfl).yl ?_
          refine QOps.nil ?_
          refine Run.seq ?_
          refine Run.ops ?_
          refine SOps.st rfl rfl (Yv.move rfl).yl ?_
          refine SOps.st rfl rfl (Yv.move rfl).yl ?_
          refine SOps.one rfl (One.callMut (i := 1) (H' := [_, _, _, _, _, _, _]) rfl callable43 (.cons rfl (.cons rfl (.nil))) rfl (fun w' hw' => markIntS_spec (hw'.ent _ (List.mem_of_getElem? (i := 1) rfl)) (by omega) (by omega) (by omega)) rfl ?_)
          refine SOps.st rfl rfl (Yv.assign rfl).yl ?_
          refine SOps.nil ?_
          refine Run.seq ?_
          refine Run.quiet (by intro h; cases h) ?_
          refine QOps.st rfl rfl (Yv.assign rfl).yl ?_
          refine QOps.nil ?_
          refine Run.seq ?_
          refine Run.quiet (by intro h; cases h) ?_
          refine QOps.st rfl rfl (Yv.move rfl).yl ?_
          refine QOps.st rfl rfl (Yv.move rfl).yl ?_
          refine QOps.st rfl rfl (Yl.call callable44 (.cons rfl (.cons rfl (.nil))) (fun w' hw' => heldIntS_spec ((Rd.row (i := 1) rfl) w' hw') (by omega) (by omega) (by omega))) ?_
          refine QOps.st rfl rfl (Yv.assign rfl).yl ?_
          refine QOps.nil ?_
          refine Run.seq ?_
          refine Run.seq ?_
          refine Run.quiet (by intro h; cases h) ?_
          refine QOps.st rfl rfl (Yv.move rfl).yl ?_
          refine QOps.st rfl rfl (Yv.lss rfl rfl).yl ?_
          refine QOps.nil ?_
          refine Run.cond rfl (fun hc5 => ?_) (fun hc5 => ?_)
          · exfalso
            first | (simp at hc5; done) | (simp at hc5; omega) | omega
          · try replace hc5 := of_decide_eq_false hc5
            refine Run.skip ?_
            refine Run.seq ?_
            refine Run.seq ?_
            refine Run.quiet (by intro h; cases h) ?_
            refine QOps.st rfl rfl (Yv.move rfl).yl ?_
            refine QOps.st rfl rfl (Yv.move rfl).yl ?_
            refine QOps.st rfl rfl (Yv.neI rfl rfl).yl ?_
            refine QOps.nil ?_
            refine Run.cond rfl (fun hc6 => ?_) (fun hc6 => ?_)
            · exfalso
              first | (simp at hc6; done) | (simp at hc6; omega) | omega
            · try replace hc6 := of_decide_eq_false hc6
              refine Run.skip ?_
              refine Run.seq ?_
              refine Run.ops ?_
              refine SOps.st rfl rfl (Yv.loadBs (i := 6) lay24 rfl rfl rfl rfl).yl ?_
              refine SOps.one rfl (One.callRow rfl callable17 (.cons rfl (.nil)) (fun w' hw' => toConvoy_spec ((Rd.arg hs) w' hw') (by omega)) (fun A6 c6 => ?_))
              refine SOps.st rfl rfl (Yv.move rfl).yl ?_
              refine SOps.one rfl (One.callRow rfl callable29 (.cons rfl (.cons rfl (.nil))) (fun w' hw' => EvenSplit_spec ((Rd.row (i := 0) rfl) w' hw')) (fun A7 c7 => ?_))
              refine SOps.st rfl rfl (Yv.move rfl).yl ?_
              refine SOps.st rfl rfl (Yv.extract rfl rfl).yl ?_
              refine SOps.st rfl rfl (Yv.extract rfl rfl).yl ?_
              refine SOps.st rfl rfl (Yv.assign rfl).yl ?_
              refine SOps.st rfl rfl (Yv.assign rfl).yl ?_
              refine SOps.nil ?_
              refine Run.seq ?_
              refine Run.seq ?_
              refine Run.quiet (by intro h; cases h) ?_
              refine QOps.st rfl rfl (Yv.move rfl).yl ?_
              refine QOps.st rfl rfl (Yv.move rfl).yl ?_
              refine QOps.st rfl rfl (Yl.call callable42 (.cons rfl (.cons rfl (.nil))) (fun w' hw' => eqIntS_spec ((Rd.row (i := 0) rfl) w' hw') ((Rd.row (i := 6) rfl) w' hw'))) ?_
              refine QOps.st rfl rfl (Yv.not rfl).yl ?_
              refine QOps.st rfl rfl (Yv.move rfl).yl ?_
              refine' QOps.or [_, _, _] _ (.tmp 91) rfl rfl rfl rfl rfl rfl (fun hg4 => ?_) ?_
              rotate_left
              · try replace hg4 := of_decide_eq_false hg4
                refine QOps.st rfl rfl (Yv.move rfl).yl ?_
                refine QOps.st rfl rfl (Yv.move rfl).yl ?_
                refine QOps.st rfl rfl (Yv.neB bool4 rfl rfl).yl ?_
                exact QOps.nil rfl
              refine QOps.nil ?_
              refine Run.cond rfl (fun hc7 => ?_) (fun hc7 => ?_)
              · exfalso
                first | (simp at hc7; done) | (simp at hc7; omega) | omega
              · try replace hc7 := of_decide_eq_false hc7
                refine Run.skip ?_
                refine Run.seq ?_
                refine Run.quiet (by intro h; cases h) ?_
                refine QOps.st rfl rfl (Yv.assign rfl).yl ?_
                refine QOps.nil ?_
                refine Run.seq ?_
                refine Run.quiet (by intro h; cases h) ?_
                refine QOps.st rfl rfl (Yv.move rfl).yl ?_
                refine QOps.st rfl rfl (Yv.move rfl).yl ?_
                refine QOps.st rfl rfl (Yl.call callable44 (.cons rfl (.cons rfl (.nil))) (fun w' hw' => heldIntS_spec ((Rd.row (i := 3) rfl) w' hw') (by omega) (by omega) (by omega))) ?_
                refine QOps.st rfl rfl (Yv.assign rfl).yl ?_
                refine QOps.nil ?_
                refine Run.seq ?_
                refine Run.seq ?_
                refine Run.quiet (by intro h; cases h) ?_
                refine QOps.st rfl rfl (Yv.move rfl).yl ?_
                refine QOps.st rfl rfl (Yv.lss rfl rfl).yl ?_
                refine QOps.nil ?_
                refine Run.cond rfl (fun hc8 => ?_) (fun hc8 => ?_)
                · exfalso
                  first | (simp at hc8; done) | (simp at hc8; omega) | omega
                · try replace hc8 := of_decide_eq_false hc8
                  refine Run.skip ?_
                  refine Run.seq ?_
                  refine Run.seq ?_
                  refine Run.quiet (by intro h; cases h) ?_
                  refine QOps.st rfl rfl (Yv.move rfl).yl ?_
                  refine QOps.st rfl rfl (Yv.move rfl).yl ?_
                  refine QOps.st rfl rfl (Yv.neI rfl rfl).yl ?_
                  refine QOps.nil ?_
                  refine Run.cond rfl (fun hc9 => ?_) (fun hc9 => ?_)
                  · exfalso
                    first | (simp at hc9; done) | (simp at hc9; omega) | omega
                  · try replace hc9 := of_decide_eq_false hc9
                    refine Run.skip ?_
                    refine Run.seq ?_
                    refine Run.quiet (by intro h; cases h) ?_
                    refine QOps.st rfl rfl (Yv.assign rfl).yl ?_
                    refine QOps.nil ?_
                    refine Run.ret ?_
                    refine retQ.of (.inr rfl) rfl (.tmp rfl .nil) (fun w' hw' => ?_)
                    refine ⟨?_, hw'.bel.below⟩
                    exact rfl
end Go.Proofs.Ytfpglglolhlegaa
