/- The best assignment of tugs, walked: the visitor and the reference's search. Conditions: none. -/
import Derived.Test.YtkkmmbogeeopaaaMixE
import Derived.Test.YtkkmmbogeeopaaaCw
namespace Go.Proofs.Ytkkmmbogeeopaaa
open Go.RowKit
set_option maxRecDepth 100000
theorem copyInts_spec {w : World} {A : Option Addr} {c : Nat} {l : List Int} (hs : Sl w 1 A l.length c (l.flatMap intC)) (hl : l.length ≤ 4000000) :
    Calls Try.prog 83 #[.slice A l.length c] w (RetRow w 3 1 l.length (l.flatMap intC) (fun v => v)) := by
  refine calls_of_run (vs := [_]) (L := [(0, _)]) (n := 6) (F := []) (H := []) Try.func83 rfl rfl rfl rfl (HOk.start _) ?_
  refine Run.seq ?_
  refine Run.quiet (by intro h; cases h) ?_
  refine QOps.st rfl rfl (Yv.assign rfl).yl ?_
  refine QOps.nil ?_
  refine Run.seq ?_
  refine Run.ops ?_
  refine SOps.one rfl (One.buildSliceG (pv := []) (cs := []) (fun _ => []) rfl el43 .nil rfl rfl (by kernel_rfl) rfl rfl (fun b1 => ?_))
  refine SOps.st rfl rfl (Yv.move rfl).yl ?_
  refine SOps.one rfl (One.append (enc := intC) (l := ([] : List Int)) (l2 := l) (m' := l.length) (i := 0) (H' := fun A c => [_]) rfl el43 zero3 rfl (by decide) rfl rfl rfl (Rd.arg hs) (fun _ => rfl) (by simp) (by omega) (by omega) (fun _ _ => rfl) (fun A1 c1 => ?_))
  refine SOps.st rfl rfl (Yv.assign rfl).yl ?_
  refine SOps.nil ?_
  refine Run.ret ?_
  refine retQ.of (.inr rfl) rfl (.tmp rfl .nil) (fun w' hw' => ?_)
  exact ⟨_, _, rfl, hw'.bel.below, hw'.ent _ (List.mem_of_getElem? (i := 0) rfl), fun g hg => (hw'.own _ (List.mem_of_getElem? (i := 0) rfl) g hg).elim id (by simp)⟩

theorem l1Own_spec {w : World} {A : Option Addr} {c : Nat} {l : List Int} (hs : Sl w 1 A l.length c (l.flatMap intC)) (hl : l.length ≤ 4000000) :
    Calls Try.prog 96 #[.slice A l.length c] w (RetRow w 3 1 l.length (l.flatMap intC) (fun v => v)) := by
  refine calls_of_run (vs := [_]) (L := [(0, _)]) (n := 6) (F := []) (H := []) Try.func96 rfl rfl rfl rfl (HOk.start _) ?_
  refine Run.seq ?_
  refine Run.quiet (by intro h; cases h) ?_
  refine QOps.st rfl rfl (Yv.assign rfl).yl ?_
  refine QOps.nil ?_
  refine Run.seq ?_
  refine Run.ops ?_
  refine SOps.one rfl (One.buildSliceG (pv := []) (cs := []) (fun _ => []) rfl el43 .nil rfl rfl (by kernel_rfl) rfl rfl (fun b1 => ?_))
  refine SOps.st rfl rfl (Yv.move rfl).yl ?_
  refine SOps.one rfl (One.append (enc := intC) (l := ([] : List Int)) (l2 := l) (m' := l.length) (i := 0) (H' := fun A c => [_]) rfl el43 zero3 rfl (by decide) rfl rfl rfl (Rd.arg hs) (fun _ => rfl) (by simp) (by omega) (by omega) (fun _ _ => rfl) (fun A1 c1 => ?_))
  refine SOps.st rfl rfl (Yv.assign rfl).yl ?_
  refine SOps.nil ?_
  refine Run.ret ?_
  refine retQ.of (.inr rfl) rfl (.tmp rfl .nil) (fun w' hw' => ?_)
  exact ⟨_, _, rfl, hw'.bel.below, hw'.ent _ (List.mem_of_getElem? (i := 0) rfl), fun g hg => (hw'.own _ (List.mem_of_getElem? (i := 0) rfl) g hg).elim id (by simp)⟩

/-- The visitor. -/
def visV (bj bt bv bl bb : Nat) : Value := .func (.func 82) #[] #[.pointer (some ⟨bj, 0, none⟩), .pointer (some ⟨bt, 0, none⟩), .pointer (some ⟨bv, 0, none⟩), .pointer (some ⟨bl, 0, none⟩), .pointer (some ⟨bb, 0, none⟩)]
theorem args6 (a b c d e f : Value) : (#[] ++ [a].toArray ++ #[b, c, d, e, f]) = #[a, b, c, d, e, f] := rfl
/-- What a visit of a partial assignment does. -/
def VisitOK (k : Nat) : Prop := ∀ (w : World) (bj bt bv bl bb cs c0 c c2 : Nat) (As A0 A A2 : Option Addr) (least : Int) (ts : List Tug) (js : List Job) (ps best : List Int), TugsIs ts → JobsIs js → ps.length + k = js.length →
  HOk w (blks [.row As cs 3 1 ps.length (ps.flatMap intC), .blk bv 99 [visV bj bt bv bl bb], .blk bl 3 [.int .i64 least], .blk bb 43 [.slice A0 best.length c0], .row A0 c0 3 1 best.length (best.flatMap intC), .blk bj 42 [.slice A2 js.length c2], .blk bt 41 [.slice A ts.length c]]) [.row As cs 3 1 ps.length (ps.flatMap intC), .blk bv 99 [visV bj bt bv bl bb], .blk bl 3 [.int .i64 least], .blk bb 43 [.slice A0 best.length c0], .row A0 c0 3 1 best.length (best.flatMap intC), .blk bj 42 [.slice A2 js.length c2], .blk bt 41 [.slice A ts.length c]] w → Sl w 3 A ts.length c (ts.flatMap Tug.enc) → (0 < ts.length → (adr A).block ∉ blks [.row As cs 3 1 ps.length (ps.flatMap intC), .blk bv 99 [visV bj bt bv bl bb], .blk bl 3 [.int .i64 least], .blk bb 43 [.slice A0 best.length c0], .row A0 c0 3 1 best.length (best.flatMap intC), .blk bj 42 [.slice A2 js.length c2], .blk bt 41 [.slice A ts.length c]]) → Sl w 5 A2 js.length c2 (js.flatMap Job.enc) → (0 < js.length → (adr A2).block ∉ blks [.row As cs 3 1 ps.length (ps.flatMap intC), .blk bv 99 [visV bj bt bv bl bb], .blk bl 3 [.int .i64 least], .blk bb 43 [.slice A0 best.length c0], .row A0 c0 3 1 best.length (best.flatMap intC), .blk bj 42 [.slice A2 js.length c2], .blk bt 41 [.slice A ts.length c]]) →
  Calls Try.prog 82 (#[] ++ [.slice As ps.length cs].toArray ++ #[.pointer (some ⟨bj, 0, none⟩), .pointer (some ⟨bt, 0, none⟩), .pointer (some ⟨bv, 0, none⟩), .pointer (some ⟨bl, 0, none⟩), .pointer (some ⟨bb, 0, none⟩)]) w
    (RetH w [.row As cs 3 1 ps.length (ps.flatMap intC), .blk bv 99 [visV bj bt bv bl bb], .blk bl 3 [.int .i64 least], .blk bb 43 [.slice A0 best.length c0], .row A0 c0 3 1 best.length (best.flatMap intC), .blk bj 42 [.slice A2 js.length c2], .blk bt 41 [.slice A ts.length c]] (fun (x : Option Addr × Nat) => [.blk bv 99 [visV bj bt bv bl bb], .blk bl 3 [.int .i64 (comb (best, least) (bestGo ts js k ps)).2], .blk bb 43 [.slice x.1 (comb (best, least) (bestGo ts js k ps)).1.length x.2], .row x.1 x.2 3 1 (comb (best, least) (bestGo ts js k ps)).1.length ((comb (best, least) (bestGo ts js k ps)).1.flatMap intC), .blk bj 42 [.slice A2 js.length c2], .blk bt 41 [.slice A ts.length c]]) (fun _ => .tuple #[]) (fun _ => True))
theorem visit_step {k : Nat} (ih : ∀ j, j < k → VisitOK j) : VisitOK k := by
  rintro w bj bt bv bl bb cs c0 c c2 As A0 A A2 least ts js ps best hT hJ hk hw hs hn hs2 hn2
  rw [args6]
  have htl := hT.len
  have hjl := hJ.len
  refine calls_of_run (vs := [_, _, _, _, _, _]) (L := [(0, _), (1, _), (2, _), (3, _), (4, _), (5, _)]) (n := 53) (F := blks _) (H := _) Try.func82 rfl rfl rfl rfl hw ?_
  refine Run.seq ?_
  refine Run.seq ?_
  refine Run.quiet (by intro h; cases h) ?_
  refine QOps.st rfl rfl (Yv.move rfl).yl ?_
  refine QOps.st rfl rfl (Yv.lenS el43s rfl).yl ?_
  refine QOps.st rfl rfl (Yv.loadB (i := 5) lay42 rfl rfl rfl rfl).yl ?_
  refine QOps.st rfl rfl (Yv.lenS el42s rfl).yl ?_
  refine QOps.st rfl rfl (Yv.lss rfl rfl).yl ?_
  refine QOps.nil ?_
  refine Run.cond rfl (fun hc1 => ?_) (fun hc1 => ?_)
  · try replace hc1 := of_decide_eq_true hc1
    obtain ⟨k, rfl⟩ : ∃ k', k = k' + 1 := ⟨k - 1, by omega⟩
    refine Run.seq ?_
    refine Run.seq ?_
    refine Run.quiet (by intro h; cases h) ?_
    refine QOps.st rfl rfl (Yv.loadB (i := 6) lay41 rfl rfl rfl rfl).yl ?_
    refine QOps.st rfl rfl (Yv.lenS el41s rfl).yl ?_
    refine QOps.st rfl rfl (Yv.move rfl).yl ?_
    refine QOps.nil ?_
    refine Run.block ?_
    refine Run.loop (S := Nat × List Int × Int × Option Addr × Nat) (fun s => match s with | (n, B, q, Ao, co) => n ≤ ts.length ∧ comb (best, least) (foldTug ts (nth js ps.length).power (fun id => bestGo ts js k (ps ++ [id])) n) = (B, q)) (fun s => match s with | (n, B, q, Ao, co) => [(0, .slice As ps.length cs), (1, .pointer (some ⟨bj, 0, none⟩)), (3, .pointer (some ⟨bv, 0, none⟩)), (15, .slice A ts.length c), (16, .int .i64 (ts.length : Int)), (17, .int .i64 (n : Int))]) (fun s => match s with | (n, B, q, Ao, co) => [.row As cs 3 1 ps.length (ps.flatMap intC), .blk bv 99 [visV bj bt bv bl bb], .blk bl 3 [.int .i64 q], .blk bb 43 [.slice Ao B.length co], .row Ao co 3 1 B.length (B.flatMap intC), .blk bj 42 [.slice A2 js.length c2], .blk bt 41 [.slice A ts.length c]]) (fun s => match s with | (n, B, q, Ao, co) => ts.length - n) (0, best, least, A0, c0) ?_ (SubE.cons rfl (SubE.cons rfl (SubE.cons rfl (SubE.cons rfl (SubE.cons rfl (SubE.cons rfl (SubE.nil _))))))) (List.Sublist.refl _) ?_
    · exact ⟨Nat.zero_le _, comb_none⟩
    · rintro ⟨n, B, q, Ao, co⟩ ⟨hnm, hB⟩
      show Run _ _ _ _ _ [(0, .slice As ps.length cs), (1, .pointer (some ⟨bj, 0, none⟩)), (3, .pointer (some ⟨bv, 0, none⟩)), (15, .slice A ts.length c), (16, .int .i64 (ts.length : Int)), (17, .int .i64 (n : Int))] [.row As cs 3 1 ps.length (ps.flatMap intC), .blk bv 99 [visV bj bt bv bl bb], .blk bl 3 [.int .i64 q], .blk bb 43 [.slice Ao B.length co], .row Ao co 3 1 B.length (B.flatMap intC), .blk bj 42 [.slice A2 js.length c2], .blk bt 41 [.slice A ts.length c]] _
      refine Run.seq ?_
      refine Run.quiet (by intro h; cases h) ?_
      refine QOps.st rfl rfl (Yv.lss rfl rfl).yl ?_
      refine QOps.nil ?_
      refine Run.seq ?_
      refine Run.cond rfl (fun hc2 => ?_) (fun hc2 => ?_)
      · try replace hc2 := of_decide_eq_true hc2
        refine Run.skip ?_
        refine Run.seq ?_
        refine Run.block ?_
        refine Run.seq ?_
        refine Run.ops ?_
        refine SOps.st rfl rfl (Yv.indexAddr n el41 rfl rfl rfl (Rd.argN hs hn) (by omega)).yl ?_
        refine SOps.st rfl rfl (Yv.loadEs lay49 rfl Tug.len (Rd.argN hs hn) (by first | omega | (simp; omega)) (by decide)).yl ?_
        refine SOps.one rfl (One.alloc rfl zero49 (fun b1 => ?_))
        refine SOps.one rfl (One.store (i := 0) (off := 0) (vs := [_, _, _]) (cs' := [_, _, _]) (H' := [_, _, _, _, _, _, _, _]) lay49 rfl rfl rfl rfl rfl rfl rfl rfl rfl rfl ?_)
        refine SOps.nil ?_
        refine Run.seq ?_
        refine Run.quiet (fun _ => ⟨by kernel_rfl, by kernel_rfl⟩) ?_
        refine QOps.st rfl rfl (Yv.fieldAddr fld49_2 rfl).yl ?_
        refine QOps.st rfl rfl (Yv.loadB (i := 0) lay3 rfl rfl rfl rfl).yl ?_
        refine QOps.st rfl rfl (Yv.loadB (i := 6) lay42 rfl rfl rfl rfl).yl ?_
        refine QOps.st rfl rfl (Yv.move rfl).yl ?_
        refine QOps.st rfl rfl (Yv.lenS el43s rfl).yl ?_
        refine QOps.st rfl rfl (Yv.indexAddr ps.length el42 rfl rfl rfl (Rd.argN hs2 hn2) (by omega)).yl ?_
        refine QOps.st rfl rfl (Yv.fieldAddr fld51_3 rfl).yl ?_
        refine QOps.st rfl rfl (Yv.loadF lay3 rfl Job.len (Rd.argN hs2 hn2) (by first | omega | (simp; omega)) (by decide) rfl).yl ?_
        refine QOps.st rfl rfl (Yv.geq rfl rfl).yl ?_
        refine QOps.nil ?_
        refine Run.cond rfl (fun hc3 => ?_) (fun hc3 => ?_)
        · try replace hc3 := of_decide_eq_true hc3
          have hst : comb (best, least) (foldTug ts (nth js ps.length).power (fun id => bestGo ts js k (ps ++ [id])) (n + 1)) = comb (B, q) (bestGo ts js k (ps ++ [(nth ts n).id])) := by rw [foldTug, if_pos hc3, ← comb_assoc, hB]
          refine Run.draws (fun H => (((H).eraseIdx 5).eraseIdx 4).eraseIdx 3) (m := 8) (listed := #[false, false, false, false, false, false, false, false]) (by kernel_rfl) rfl rfl ?_
          refine DOps.take (listed' := #[true, false, false, false, false, false, false, false]) 0 rfl (by kernel_rfl) rfl (List.Sublist.cons_cons _ (List.Sublist.cons_cons _ (List.Sublist.cons_cons _ (List.Sublist.cons _ (List.Sublist.cons _ (List.Sublist.cons _ (List.Sublist.refl _))))))) rfl rfl (Yv.loadB (i := 2) lay99 rfl rfl rfl rfl) ?_
          refine DOps.take (listed' := #[true, true, false, false, false, false, false, false]) 1 rfl (by kernel_rfl) rfl (List.Sublist.cons_cons _ (List.Sublist.cons_cons _ (List.Sublist.cons_cons _ (List.Sublist.cons _ (List.Sublist.cons _ (List.Sublist.cons _ (List.Sublist.refl _))))))) rfl rfl (Yv.move rfl) ?_
          refine DOps.take (listed' := #[true, true, false, true, false, false, false, false]) 3 rfl (by kernel_rfl) rfl (List.Sublist.cons_cons _ (List.Sublist.cons_cons _ (List.Sublist.cons_cons _ (List.Sublist.cons _ (List.Sublist.cons _ (List.Sublist.cons _ (List.Sublist.refl _))))))) rfl rfl (Yv.fieldAddr fld49_0 rfl) ?_
          refine DOps.take (listed' := #[true, true, false, true, true, false, false, false]) 4 rfl (by kernel_rfl) rfl (List.Sublist.cons_cons _ (List.Sublist.cons_cons _ (List.Sublist.cons_cons _ (List.Sublist.cons _ (List.Sublist.cons _ (List.Sublist.cons _ (List.Sublist.refl _))))))) rfl rfl (Yv.loadB (i := 0) lay3 rfl rfl rfl rfl) ?_
          refine DOps.fork2 (l1 := #[true, true, true, true, true, false, false, false]) (l2 := #[true, true, false, true, true, true, false, false]) 2 5 rfl rfl (by kernel_rfl) rfl rfl rfl rfl ?_ ?_
          ·
            refine One.callRow rfl callable83 (.cons rfl (.nil)) (fun w' hw' => copyInts_spec ((Rd.row (i := 1) rfl) w' hw') (by omega)) (fun A11 c11 => ?_)
            refine ⟨(List.Sublist.cons _ (List.Sublist.cons_cons _ (List.Sublist.cons_cons _ (List.Sublist.cons_cons _ (List.Sublist.cons _ (List.Sublist.cons _ (List.Sublist.cons _ (List.Sublist.refl _)))))))), ?_⟩
            refine DOps.only (listed' := #[true, true, true, true, true, true, false, false]) 5 rfl (by kernel_rfl) rfl rfl ?_
            refine One.buildSliceG (pv := [(0, _)]) (cs := [_]) (fun l => match l with | [a0_0] => [a0_0] | _ => []) rfl el43 (.cons rfl (.nil)) rfl rfl (by kernel_rfl) rfl rfl (fun b2 => ?_)
            refine ⟨(List.Sublist.cons _ (List.Sublist.cons _ (List.Sublist.cons_cons _ (List.Sublist.cons_cons _ (List.Sublist.cons_cons _ (List.Sublist.cons _ (List.Sublist.cons _ (List.Sublist.cons _ (List.Sublist.refl _))))))))), ?_⟩
            refine DOps.only (listed' := #[true, true, true, true, true, true, true, false]) 6 rfl (by kernel_rfl) rfl rfl ?_
            refine One.append (enc := intC) (l := ps) (l2 := [(nth ts n).id]) (m' := (ps ++ [(nth ts n).id]).length) (i := 1) (H' := fun A c => [_, _, _, _, _, _, _, _, _, _]) rfl el43 zero3 rfl (by decide) rfl rfl rfl (Rd.row (i := 0) rfl) (fun _ => rfl) (by simp) (by simp; omega) (by simp; omega) (fun _ _ => rfl) (fun A12 c12 => ?_)
            refine ⟨(List.Sublist.cons _ (List.Sublist.cons _ (List.Sublist.cons_cons _ (List.Sublist.cons_cons _ (List.Sublist.cons_cons _ (List.Sublist.cons _ (List.Sublist.cons _ (List.Sublist.cons _ (List.Sublist.refl _))))))))), ?_⟩
            refine DOps.only (listed' := #[true, true, true, true, true, true, true, true]) 7 rfl (by kernel_rfl) rfl rfl ?_
            refine One.callVH (E := [_, _, _, _, _, _, _]) (H1 := [_, _, _]) rfl rfl callable82 (.cons rfl (.nil)) [false, true, false, false, true, true, true, true, true, true] rfl rfl (fun w' hw' => ih k (Nat.lt_succ_self k) w' bj bt bv bl bb _ _ c c2 _ _ A A2 _ ts js _ _ hT hJ (by simp; omega) hw'.lendL ((Rd.argN hs hn) w' hw') (fun hm => HOk.apartArg hw' hs hn (fun e he => List.mem_append_left _ he) hm) ((Rd.argN hs2 hn2) w' hw') (fun hm => HOk.apartArg hw' hs2 hn2 (fun e he => List.mem_append_left _ he) hm)) ?_
            rintro ⟨Av1, cv1⟩ -
            refine ⟨(List.Sublist.cons _ (List.Sublist.cons_cons _ (List.Sublist.cons_cons _ (List.Sublist.cons_cons _ (List.Sublist.cons _ (List.Sublist.cons _ (List.Sublist.cons _ (List.Sublist.refl _)))))))), ?_⟩
            refine DOps.done (by kernel_rfl) ?_
            refine Run.quiet (by intro h; cases h) ?_
            refine QOps.st rfl rfl (Yv.succN rfl rfl (by omega)).yl ?_
            refine QOps.st rfl rfl (Yv.move rfl).yl ?_
            refine QOps.nil ?_
            refine ⟨(n + 1, _, _, _, _), ?_, ?_, (SubE.cons rfl (SubE.cons rfl (SubE.cons rfl (SubE.cons rfl (SubE.cons rfl (SubE.cons rfl (SubE.nil _))))))), (List.Sublist.cons _ (List.Sublist.cons _ (List.Sublist.refl _)))⟩
            · exact ⟨by omega, hst⟩
            · first | omega | (dsimp only; omega)
          ·
            refine One.buildSliceG (pv := [(0, _)]) (cs := [_]) (fun l => match l with | [a0_0] => [a0_0] | _ => []) rfl el43 (.cons rfl (.nil)) rfl rfl (by kernel_rfl) rfl rfl (fun b2 => ?_)
            refine ⟨(List.Sublist.cons _ (List.Sublist.cons_cons _ (List.Sublist.cons_cons _ (List.Sublist.cons_cons _ (List.Sublist.cons _ (List.Sublist.cons _ (List.Sublist.cons _ (List.Sublist.refl _)))))))), ?_⟩
            refine DOps.only (listed' := #[true, true, true, true, true, true, false, false]) 2 rfl (by kernel_rfl) rfl rfl ?_
            refine One.callRow rfl callable83 (.cons rfl (.nil)) (fun w' hw' => copyInts_spec ((Rd.row (i := 2) rfl) w' hw') (by omega)) (fun A11 c11 => ?_)
            refine ⟨(List.Sublist.cons _ (List.Sublist.cons _ (List.Sublist.cons_cons _ (List.Sublist.cons_cons _ (List.Sublist.cons_cons _ (List.Sublist.cons _ (List.Sublist.cons _ (List.Sublist.cons _ (List.Sublist.refl _))))))))), ?_⟩
            refine DOps.only (listed' := #[true, true, true, true, true, true, true, false]) 6 rfl (by kernel_rfl) rfl rfl ?_
            refine One.append (enc := intC) (l := ps) (l2 := [(nth ts n).id]) (m' := (ps ++ [(nth ts n).id]).length) (i := 0) (H' := fun A c => [_, _, _, _, _, _, _, _, _, _]) rfl el43 zero3 rfl (by decide) rfl rfl rfl (Rd.row (i := 1) rfl) (fun _ => rfl) (by simp) (by simp; omega) (by simp; omega) (fun _ _ => rfl) (fun A12 c12 => ?_)
            refine ⟨(List.Sublist.cons _ (List.Sublist.cons _ (List.Sublist.cons_cons _ (List.Sublist.cons_cons _ (List.Sublist.cons_cons _ (List.Sublist.cons _ (List.Sublist.cons _ (List.Sublist.cons _ (List.Sublist.refl _))))))))), ?_⟩
            refine DOps.only (listed' := #[true, true, true, true, true, true, true, true]) 7 rfl (by kernel_rfl) rfl rfl ?_
            refine One.callVH (E := [_, _, _, _, _, _, _]) (H1 := [_, _, _]) rfl rfl callable82 (.cons rfl (.nil)) [true, false, false, false, true, true, true, true, true, true] rfl rfl (fun w' hw' => ih k (Nat.lt_succ_self k) w' bj bt bv bl bb _ _ c c2 _ _ A A2 _ ts js _ _ hT hJ (by simp; omega) hw'.lendL ((Rd.argN hs hn) w' hw') (fun hm => HOk.apartArg hw' hs hn (fun e he => List.mem_append_left _ he) hm) ((Rd.argN hs2 hn2) w' hw') (fun hm => HOk.apartArg hw' hs2 hn2 (fun e he => List.mem_append_left _ he) hm)) ?_
            rintro ⟨Av1, cv1⟩ -
            refine ⟨(List.Sublist.cons _ (List.Sublist.cons_cons _ (List.Sublist.cons_cons _ (List.Sublist.cons_cons _ (List.Sublist.cons _ (List.Sublist.cons _ (List.Sublist.cons _ (List.Sublist.refl _)))))))), ?_⟩
            refine DOps.done (by kernel_rfl) ?_
            refine Run.quiet (by intro h; cases h) ?_
            refine QOps.st rfl rfl (Yv.succN rfl rfl (by omega)).yl ?_
            refine QOps.st rfl rfl (Yv.move rfl).yl ?_
            refine QOps.nil ?_
            refine ⟨(n + 1, _, _, _, _), ?_, ?_, (SubE.cons rfl (SubE.cons rfl (SubE.cons rfl (SubE.cons rfl (SubE.cons rfl (SubE.cons rfl (SubE.nil _))))))), (List.Sublist.cons _ (List.Sublist.cons _ (List.Sublist.refl _)))⟩
            · exact ⟨by omega, hst⟩
            · first | omega | (dsimp only; omega)
        · try replace hc3 := of_decide_eq_false hc3
          have hst : comb (best, least) (foldTug ts (nth js ps.length).power (fun id => bestGo ts js k (ps ++ [id])) (n + 1)) = (B, q) := by rw [foldTug, if_neg hc3, hB]
          refine Run.skip ?_
          refine Run.quiet (by intro h; cases h) ?_
          refine QOps.st rfl rfl (Yv.succN rfl rfl (by omega)).yl ?_
          refine QOps.st rfl rfl (Yv.move rfl).yl ?_
          refine QOps.nil ?_
          refine ⟨(n + 1, B, q, Ao, co), ?_, ?_, (SubE.cons rfl (SubE.cons rfl (SubE.cons rfl (SubE.cons rfl (SubE.cons rfl (SubE.cons rfl (SubE.nil _))))))), (List.Sublist.cons _ (List.Sublist.refl _))⟩
          · exact ⟨by omega, hst⟩
          · first | omega | (dsimp only; omega)
      · try replace hc2 := of_decide_eq_false hc2
        obtain rfl : n = ts.length := by omega
        have hE : comb (best, least) (bestGo ts js (k + 1) ps) = (B, q) := by rw [bestGo]; exact hB
        refine Run.exit ?_
        refine Run.ret ?_
        refine retQ.of (.inr rfl) rfl (.nil) (fun w' hw' => ?_)
        exact ⟨(Ao, co), rfl, trivial, by rw [hE]; exact hw'.sub (List.Sublist.cons _ (List.Sublist.refl _))⟩
  · try replace hc1 := of_decide_eq_false hc1
    obtain rfl : k = 0 := by omega
    have hwt := (day_in (who := ps) hT hJ (Nat.le_refl js.length)).waits
    refine Run.skip ?_
    refine Run.seq ?_
    refine Run.ops ?_
    refine SOps.st rfl rfl (Yv.loadB (i := 6) lay41 rfl rfl rfl rfl).yl ?_
    refine SOps.st rfl rfl (Yv.loadB (i := 5) lay42 rfl rfl rfl rfl).yl ?_
    refine SOps.st rfl rfl (Yv.move rfl).yl ?_
    refine SOps.one rfl (One.callH (E := []) (H1 := [_, _, _, _, _, _, _]) rfl callable67 (.cons rfl (.cons rfl (.cons rfl (.nil)))) [false, false, false, false, false, false, false] rfl rfl (fun w' hw' => towAll_spec ((Rd.argN hs hn) w' hw') ((Rd.argN hs2 hn2) w' hw') ((Rd.row (i := 0) rfl) w' hw') hT hJ (by omega)) ?_)
    rintro ⟨⟨At2, ct2⟩, bt2, bo2⟩ -
    refine SOps.st rfl rfl (Yv.field Try.underlying93 rfl lay3 rfl rfl rfl).yl ?_
    refine SOps.st rfl rfl (Yv.assign rfl).yl ?_
    refine SOps.nil ?_
    refine Run.seq ?_
    refine Run.quiet (by intro h; cases h) ?_
    refine QOps.st rfl rfl (Yv.loadB (i := 2) lay3 rfl rfl rfl rfl).yl ?_
    refine QOps.st rfl rfl (Yv.lss rfl rfl).yl ?_
    refine QOps.st rfl rfl (Yv.move rfl).yl ?_
    refine' QOps.or [_, _, _] _ (.tmp 49) rfl rfl rfl rfl rfl rfl (fun hg1 => ?_) ?_
    rotate_left
    · try replace hg1 := of_decide_eq_false hg1
      refine QOps.st rfl rfl (Yv.move rfl).yl ?_
      refine QOps.st rfl rfl (Yv.loadB (i := 2) lay3 rfl rfl rfl rfl).yl ?_
      refine QOps.st rfl rfl (Yv.lss rfl rfl).yl ?_
      exact QOps.nil rfl
    refine QOps.nil ?_
    refine Run.cond rfl (fun hc4 => ?_) (fun hc4 => ?_)
    · try replace hc4 := of_decide_eq_true hc4
      have hE : comb (best, least) (bestGo ts js 0 ps) = (ps, (dayTo ts js ps js.length).waits) := by
            rw [bestGo]; unfold comb; rw [if_pos ⟨hwt.1, by simpa using hc4⟩]
      refine Run.ops ?_
      refine SOps.st rfl rfl (Yv.move rfl).yl ?_
      refine SOps.st rfl rfl (Yv.move rfl).yl ?_
      refine SOps.one rfl (One.store (i := 3) (off := 0) (vs := [_]) (cs' := [_]) (H' := [_, _, _, _, _, _, _, _, _, _]) lay43 rfl rfl rfl rfl rfl rfl rfl rfl rfl rfl ?_)
      refine SOps.one rfl (One.store (i := 2) (off := 0) (vs := [_]) (cs' := [_]) (H' := [_, _, _, _, _, _, _, _, _, _]) lay3 rfl rfl rfl rfl rfl rfl rfl rfl rfl rfl ?_)
      refine SOps.nil ?_
      refine retQ.of (.inl rfl) rfl (.nil) (fun w' hw' => ?_)
      exact ⟨(As, cs), rfl, trivial, by rw [hE]; exact (hw'.sub (List.Sublist.cons_cons _ (List.Sublist.cons_cons _ (List.Sublist.cons_cons _ (List.Sublist.cons_cons _ (List.Sublist.cons _ (List.Sublist.cons_cons _ (List.Sublist.cons_cons _ (List.nil_sublist _))))))))).perm (List.perm_middle (l₁ := [_, _, _])).symm⟩
    · try replace hc4 := of_decide_eq_false hc4
      have hE : comb (best, least) (bestGo ts js 0 ps) = (best, least) := by
            rw [bestGo]; unfold comb; rw [if_neg (fun h => by have h9 := h.2; simp at hc4; omega)]
      refine Run.skip ?_
      refine retQ.of (.inl rfl) rfl (.nil) (fun w' hw' => ?_)
      exact ⟨(A0, c0), rfl, trivial, by rw [hE]; exact hw'.sub (List.Sublist.cons _ (List.Sublist.cons_cons _ (List.Sublist.cons_cons _ (List.Sublist.cons_cons _ (List.Sublist.cons_cons _ (List.Sublist.cons_cons _ (List.Sublist.cons_cons _ (List.nil_sublist _))))))))⟩
theorem visit_spec : ∀ k, VisitOK k := fun k => Nat.strongRecOn k fun _ ih => visit_step ih
theorem BestTugs_spec {w : World} {A : Option Addr} {c : Nat} {ts : List Tug} {A2 : Option Addr} {c2 : Nat} {js : List Job} (hs : Sl w 3 A ts.length c (ts.flatMap Tug.enc)) (hs2 : Sl w 5 A2 js.length c2 (js.flatMap Job.enc)) : Calls Try.prog 41 #[.slice A ts.length c, .slice A2 js.length c2] w (RetRow w 3 1 (bestOf ts js).1.length ((bestOf ts js).1.flatMap intC) (fun v => .tuple #[v, .int .i64 (bestOf ts js).2.1, .bool (bestOf ts js).2.2])) := by
  refine calls_of_run (vs := [_, _]) (L := [(0, _), (1, _)]) (n := 27) (F := []) (H := []) Try.func41 rfl rfl rfl rfl (HOk.start _) ?_
  refine Run.seq ?_
  refine Run.ops ?_
  refine SOps.one rfl (One.box (cs := [_]) rfl rfl rfl (fun b1 => ?_))
  refine SOps.one rfl (One.box (cs := [_]) rfl rfl rfl (fun b2 => ?_))
  refine SOps.st rfl rfl (Yv.assign rfl).yl ?_
  refine SOps.st rfl rfl (Yv.assign rfl).yl ?_
  refine SOps.st rfl rfl (Yv.assign rfl).yl ?_
  refine SOps.nil ?_
  refine Run.seq ?_
  refine Run.seq ?_
  refine Run.quiet (by intro h; cases h) ?_
  refine QOps.st rfl rfl (Yv.loadB (i := 1) lay41 rfl rfl rfl rfl).yl ?_
  refine QOps.st rfl rfl (Yl.call callable34 (.cons rfl (.nil)) (fun w' hw' => AreTugs_spec ((Rd.arg hs) w' hw'))) ?_
  refine QOps.st rfl rfl (Yv.not rfl).yl ?_
  refine QOps.st rfl rfl (Yv.move rfl).yl ?_
  refine' QOps.or [_, _, _] _ (.tmp 16) rfl rfl rfl rfl rfl rfl (fun hg1 => ?_) ?_
  rotate_left
  · try replace hg1 := of_decide_eq_false hg1
    refine QOps.st rfl rfl (Yv.loadB (i := 0) lay42 rfl rfl rfl rfl).yl ?_
    refine QOps.st rfl rfl (Yl.call callable36 (.cons rfl (.nil)) (fun w' hw' => AreTugJobs_spec ((Rd.arg hs2) w' hw'))) ?_
    refine QOps.st rfl rfl (Yv.not rfl).yl ?_
    exact QOps.nil rfl
  refine QOps.nil ?_
  refine Run.cond rfl (fun hc1 => ?_) (fun hc1 => ?_)
  · try replace hc1 := of_decide_eq_true hc1
    have hz : bestOf ts js = ([], 0, false) := by unfold bestOf; rw [if_neg (both_no hc1)]
    refine Run.seq ?_
    refine Run.quiet (by intro h; cases h) ?_
    refine QOps.st rfl rfl (Yv.assign rfl).yl ?_
    refine QOps.st rfl rfl (Yv.assign rfl).yl ?_
    refine QOps.st rfl rfl (Yv.assign rfl).yl ?_
    refine QOps.nil ?_
    refine Run.ret ?_
    refine retQ.of (.inr rfl) rfl (.tmp rfl (.tmp rfl (.tmp rfl .nil))) (fun w' hw' => ?_)
    rw [hz]; exact ⟨_, _, rfl, hw'.bel.below, ⟨by first | rfl | simp, .inl ⟨rfl, rfl⟩⟩, by simp⟩
  · try replace hc1 := of_decide_eq_false hc1
    have hyes := both_yes hc1
    have hy2 := hyes
    rw [Bool.and_eq_true] at hy2
    have hT := tugs_is hy2.1
    have hJ := jobs_is hy2.2
    refine Run.skip ?_
    refine Run.seq ?_
    refine Run.ops ?_
    refine SOps.one rfl (One.buildSliceG (pv := []) (cs := []) (fun _ => []) rfl el43 .nil rfl rfl (by kernel_rfl) rfl rfl (fun b3 => ?_))
    refine SOps.one rfl (One.alloc rfl zero43 (fun b4 => ?_))
    refine SOps.one rfl (One.alloc rfl zero3 (fun b5 => ?_))
    refine SOps.one rfl (One.store (i := 1) (off := 0) (vs := [_]) (cs' := [_]) (H' := [_, _, _, _, _]) lay43 rfl rfl rfl rfl rfl rfl rfl rfl rfl rfl ?_)
    refine SOps.one rfl (One.store (i := 0) (off := 0) (vs := [_]) (cs' := [_]) (H' := [_, _, _, _, _]) lay3 rfl rfl rfl rfl rfl rfl rfl rfl rfl rfl ?_)
    refine SOps.nil ?_
    refine Run.seq ?_
    refine Run.ops ?_
    refine SOps.one rfl (One.alloc rfl zero99 (fun b6 => ?_))
    refine SOps.nil ?_
    refine Run.seq ?_
    refine Run.ops ?_
    refine SOps.st rfl rfl (Yv.makeFunc .nil (.cons rfl (.cons rfl (.cons rfl (.cons rfl (.cons rfl (.nil))))))).yl ?_
    refine SOps.one rfl (One.store (i := 0) (off := 0) (vs := [_]) (cs' := [_]) (H' := [_, _, _, _, _, _]) lay99 rfl rfl rfl rfl rfl rfl rfl rfl rfl rfl ?_)
    refine SOps.nil ?_
    refine Run.seq ?_
    refine Run.ops ?_
    refine SOps.st rfl rfl (Yv.loadB (i := 0) lay99 rfl rfl rfl rfl).yl ?_
    refine SOps.one rfl (One.buildSliceG (pv := []) (cs := []) (fun _ => []) rfl el43 .nil rfl rfl (by kernel_rfl) rfl rfl (fun b7 => ?_))
    refine SOps.one rfl (One.callVH (E := [_, _, _, _, _, _, _]) (H1 := []) rfl rfl callable82 (.cons rfl (.nil)) [true, true, true, true, true, true, true] rfl rfl (fun w' hw' => visit_spec js.length w' b2 b1 b6 b5 b4 0 0 c c2 (some ⟨b7, 0, none⟩) (some ⟨b3, 0, none⟩) A A2 (-1) ts js [] [] hT hJ (by simp) hw'.lendL ((Rd.arg hs) w' hw') (fun hm => HOk.apartArg hw' hs (by simp) (fun e he => List.mem_append_left _ he) hm) ((Rd.arg hs2) w' hw') (fun hm => HOk.apartArg hw' hs2 (by simp) (fun e he => List.mem_append_left _ he) hm)) ?_)
    rintro ⟨Av1, cv1⟩ -
    refine SOps.nil ?_
    refine Run.seq ?_
    refine Run.seq ?_
    refine Run.quiet (by intro h; cases h) ?_
    refine QOps.st rfl rfl (Yv.loadB (i := 1) lay3 rfl rfl rfl rfl).yl ?_
    refine QOps.st rfl rfl (Yv.lss rfl rfl).yl ?_
    refine QOps.nil ?_
    refine Run.cond rfl (fun hc2 => ?_) (fun hc2 => ?_)
    · try replace hc2 := of_decide_eq_true hc2
      have hz : bestOf ts js = ([], 0, false) := by unfold bestOf; rw [if_pos hyes, if_pos (by rw [comb_first hT hJ] at hc2; exact hc2)]
      refine Run.seq ?_
      refine Run.quiet (by intro h; cases h) ?_
      refine QOps.st rfl rfl (Yv.assign rfl).yl ?_
      refine QOps.st rfl rfl (Yv.assign rfl).yl ?_
      refine QOps.st rfl rfl (Yv.assign rfl).yl ?_
      refine QOps.nil ?_
      refine Run.ret ?_
      refine retQ.of (.inr rfl) rfl (.tmp rfl (.tmp rfl (.tmp rfl .nil))) (fun w' hw' => ?_)
      rw [hz]; exact ⟨_, _, rfl, hw'.bel.below, ⟨by first | rfl | simp, .inl ⟨rfl, rfl⟩⟩, by simp⟩
    · try replace hc2 := of_decide_eq_false hc2
      have hz : bestOf ts js = ((comb (([] : List Int), (-1 : Int)) (bestGo ts js js.length [])).1, (comb (([] : List Int), (-1 : Int)) (bestGo ts js js.length [])).2, true) := by unfold bestOf; rw [if_pos hyes, if_neg (by rw [comb_first hT hJ] at hc2; exact hc2), comb_first hT hJ]
      refine Run.skip ?_
      refine Run.seq ?_
      refine Run.quiet (fun _ => ⟨by kernel_rfl, by kernel_rfl⟩) ?_
      refine QOps.st rfl rfl (Yv.loadB (i := 2) lay43 rfl rfl rfl rfl).yl ?_
      refine QOps.st rfl rfl (Yv.loadB (i := 1) lay3 rfl rfl rfl rfl).yl ?_
      refine QOps.st rfl rfl (Yv.assign rfl).yl ?_
      refine QOps.st rfl rfl (Yv.assign rfl).yl ?_
      refine QOps.st rfl rfl (Yv.assign rfl).yl ?_
      refine QOps.nil ?_
      refine Run.ret ?_
      refine retQ.of (.inr rfl) rfl (.tmp rfl (.tmp rfl (.tmp rfl .nil))) (fun w' hw' => ?_)
      rw [hz]; exact ⟨_, _, rfl, hw'.bel.below, hw'.ent _ (List.mem_of_getElem? (i := 3) rfl), fun g hg => (hw'.own _ (List.mem_of_getElem? (i := 3) rfl) g hg).elim id (by simp)⟩
end Go.Proofs.Ytkkmmbogeeopaaa
