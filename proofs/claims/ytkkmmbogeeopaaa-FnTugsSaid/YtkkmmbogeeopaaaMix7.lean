/- Tugs: what they do with an assignment, walked: maps. Conditions: none. -/
import Derived.Test.YtkkmmbogeeopaaaMix6
import Derived.Test.YtkkmmbogeeopaaaCw
namespace Go.Proofs.Ytkkmmbogeeopaaa
open Go.RowKit
set_option maxRecDepth 100000
theorem towAll_spec {w : World} {A : Option Addr} {c : Nat} {ts : List Tug} {A2 : Option Addr} {c2 : Nat} {js : List Job} {A3 : Option Addr} {c3 : Nat} {who : List Int} (hs : Sl w 3 A ts.length c (ts.flatMap Tug.enc)) (hs2 : Sl w 5 A2 js.length c2 (js.flatMap Job.enc)) (hs3 : Sl w 1 A3 who.length c3 (who.flatMap intC)) (hT : TugsIs ts) (hJ : JobsIs js) (hwl : who.length = js.length) : Calls Try.prog 67 #[.slice A ts.length c, .slice A2 js.length c2, .slice A3 who.length c3] w
    (RetH w [] (fun (x : (Option Addr × Nat) × Nat × Nat) => [.mp x.2.2 (dayTo ts js who js.length).others none, .mp x.2.1 (dayTo ts js who js.length).towed none, .row x.1.1 x.1.2 3 1 (dayTo ts js who js.length).ends.length ((dayTo ts js who js.length).ends.flatMap intC)]) (fun x => .agg #[.slice x.1.1 (dayTo ts js who js.length).ends.length x.1.2, .int .i64 (dayTo ts js who js.length).waits, .map (some x.2.1), .map (some x.2.2)]) (fun _ => True)) := by
  have hjl := hJ.len
  have htl := hT.len
  refine calls_of_run (vs := [_, _, _]) (L := [(0, _), (1, _), (2, _)]) (n := 107) (F := []) (H := []) Try.func67 rfl rfl rfl rfl (HOk.start _) ?_
  refine Run.seq ?_
  refine Run.ops ?_
  refine SOps.one rfl (One.alloc rfl zero93 (fun b1 => ?_))
  refine SOps.nil ?_
  refine Run.seq ?_
  refine Run.ops ?_
  refine SOps.one rfl (One.buildSliceG (pv := []) (cs := []) (fun _ => []) rfl el43 .nil rfl rfl (by kernel_rfl) rfl rfl (fun b2 => ?_))
  refine SOps.one rfl (One.makeMap rfl (fun b3 => ?_))
  refine SOps.one rfl (One.makeMap rfl (fun b4 => ?_))
  refine SOps.st rfl rfl (Yv.buildG (pv := [(0, _), (2, _), (3, _)]) (cs := [_, _, _, _]) (fun l => match l with | [a0_0, a1_0, a2_0] => [a0_0, .int .i64 0, a1_0, a2_0] | _ => []) (.cons rfl (.cons rfl (.cons rfl (.nil)))) rfl rfl (by kernel_rfl)).yl ?_
  refine SOps.one rfl (One.alloc rfl zero93 (fun b5 => ?_))
  refine SOps.one rfl (One.store (i := 0) (off := 0) (vs := [_, _, _, _]) (cs' := [_, _, _, _]) (H' := [_, _, _, _, _]) lay93 rfl rfl rfl rfl rfl rfl rfl rfl rfl rfl ?_)
  refine SOps.nil ?_
  refine Run.seq ?_
  refine Run.ops ?_
  refine SOps.one rfl (One.makeMap rfl (fun b6 => ?_))
  refine SOps.one rfl (One.makeMap rfl (fun b7 => ?_))
  refine SOps.st rfl rfl (Yv.assign rfl).yl ?_
  refine SOps.st rfl rfl (Yv.assign rfl).yl ?_
  refine SOps.nil ?_
  refine Run.seq ?_
  refine Run.seq ?_
  refine Run.quiet (by intro h; cases h) ?_
  refine QOps.st rfl rfl (Yv.move rfl).yl ?_
  refine QOps.st rfl rfl (Yv.lenS el41s rfl).yl ?_
  refine QOps.st rfl rfl (Yv.move rfl).yl ?_
  refine QOps.nil ?_
  refine Run.block ?_
  refine Run.loop (S := Nat) (fun s => match s with | k => k ≤ ts.length) (fun s => match s with | k => [(1, .slice A2 js.length c2), (2, .slice A3 who.length c3), (6, .pointer (some ⟨b1, 0, none⟩)), (7, .pointer (some ⟨b5, 0, none⟩)), (8, .map (some b6)), (9, .map (some b7)), (24, .slice A ts.length c), (25, .int .i64 (ts.length : Int)), (26, .int .i64 (k : Int))]) (fun s => match s with | k => [.mp b7 (fun _ => 0) none, .mp b6 (placesTo ts k) none, .blk b5 93 [.slice (some ⟨b2, 0, none⟩) 0 0, .int .i64 0, .map (some b3), .map (some b4)], .mp b4 (fun _ => 0) none, .mp b3 (fun _ => 0) none, .row (some ⟨b2, 0, none⟩) 0 3 1 ([] : List Int).length (([] : List Int).flatMap intC), .blk b1 93 [.slice none 0 0, .int .i64 0, .map none, .map none]]) (fun s => match s with | k => ts.length - k) 0 ?_ (SubE.cons rfl (SubE.cons rfl (SubE.cons rfl (SubE.cons rfl (SubE.cons rfl (SubE.cons rfl (SubE.cons rfl (SubE.cons rfl (SubE.cons rfl (SubE.nil _)))))))))) (List.Sublist.refl _) ?_
  · exact Nat.zero_le _
  · rintro k hk
    show Run _ _ _ _ _ [(1, .slice A2 js.length c2), (2, .slice A3 who.length c3), (6, .pointer (some ⟨b1, 0, none⟩)), (7, .pointer (some ⟨b5, 0, none⟩)), (8, .map (some b6)), (9, .map (some b7)), (24, .slice A ts.length c), (25, .int .i64 (ts.length : Int)), (26, .int .i64 (k : Int))] [.mp b7 (fun _ => 0) none, .mp b6 (placesTo ts k) none, .blk b5 93 [.slice (some ⟨b2, 0, none⟩) 0 0, .int .i64 0, .map (some b3), .map (some b4)], .mp b4 (fun _ => 0) none, .mp b3 (fun _ => 0) none, .row (some ⟨b2, 0, none⟩) 0 3 1 ([] : List Int).length (([] : List Int).flatMap intC), .blk b1 93 [.slice none 0 0, .int .i64 0, .map none, .map none]] _
    refine Run.seq ?_
    refine Run.quiet (by intro h; cases h) ?_
    refine QOps.st rfl rfl (Yv.lss rfl rfl).yl ?_
    refine QOps.nil ?_
    refine Run.seq ?_
    refine Run.cond rfl (fun hc1 => ?_) (fun hc1 => ?_)
    · try replace hc1 := of_decide_eq_true hc1
      refine Run.skip ?_
      refine Run.seq ?_
      refine Run.block ?_
      refine Run.seq ?_
      refine Run.ops ?_
      refine SOps.st rfl rfl (Yv.indexAddr k el41 rfl rfl rfl (Rd.arg hs) (by omega)).yl ?_
      refine SOps.st rfl rfl (Yv.loadEs lay49 rfl Tug.len (Rd.arg hs) (by first | omega | (simp; omega)) (by decide)).yl ?_
      refine SOps.one rfl (One.alloc rfl zero49 (fun b8 => ?_))
      refine SOps.one rfl (One.store (i := 0) (off := 0) (vs := [_, _, _]) (cs' := [_, _, _]) (H' := [_, _, _, _, _, _, _, _]) lay49 rfl rfl rfl rfl rfl rfl rfl rfl rfl rfl ?_)
      refine SOps.nil ?_
      refine Run.ops ?_
      refine SOps.st rfl rfl (Yv.move rfl).yl ?_
      refine SOps.st rfl rfl (Yv.fieldAddr fld49_0 rfl).yl ?_
      refine SOps.st rfl rfl (Yv.loadB (i := 0) lay3 rfl rfl rfl rfl).yl ?_
      refine SOps.st rfl rfl (Yv.fieldAddr fld49_1 rfl).yl ?_
      refine SOps.st rfl rfl (Yv.loadB (i := 0) lay3 rfl rfl rfl rfl).yl ?_
      refine SOps.one rfl (One.mapUpdate (i := 2) (H' := [_, _, _, _, _, _, _, _]) Try.underlying91 Try.underlying3 rfl rfl rfl rfl rfl ?_)
      refine SOps.nil ?_
      refine Run.quiet (by intro h; cases h) ?_
      refine QOps.st rfl rfl (Yv.succN rfl rfl (by omega)).yl ?_
      refine QOps.st rfl rfl (Yv.move rfl).yl ?_
      refine QOps.nil ?_
      refine ⟨k + 1, ?_, ?_, (SubE.cons rfl (SubE.cons rfl (SubE.cons rfl (SubE.cons rfl (SubE.cons rfl (SubE.cons rfl (SubE.cons rfl (SubE.cons rfl (SubE.cons rfl (SubE.nil _)))))))))), (List.Sublist.cons _ (List.Sublist.refl _))⟩
      · show k + 1 ≤ _; omega
      · first | omega | (dsimp only; omega)
    · try replace hc1 := of_decide_eq_false hc1
      obtain rfl : k = ts.length := by omega
      refine Run.exit ?_
      refine Run.seq ?_
      refine Run.seq ?_
      refine Run.quiet (by intro h; cases h) ?_
      refine QOps.st rfl rfl (Yv.move rfl).yl ?_
      refine QOps.st rfl rfl (Yv.lenS el42s rfl).yl ?_
      refine QOps.st rfl rfl (Yv.move rfl).yl ?_
      refine QOps.nil ?_
      refine Run.block ?_
      refine Run.loop (S := Nat × Option Addr × Nat) (fun s => match s with | (i, A4, c4) => i ≤ js.length) (fun s => match s with | (i, A4, c4) => [(2, .slice A3 who.length c3), (6, .pointer (some ⟨b1, 0, none⟩)), (7, .pointer (some ⟨b5, 0, none⟩)), (8, .map (some b6)), (9, .map (some b7)), (36, .slice A2 js.length c2), (37, .int .i64 (js.length : Int)), (38, .int .i64 (i : Int))]) (fun s => match s with | (i, A4, c4) => [.mp b7 (dayTo ts js who i).tk none, .mp b6 (dayTo ts js who i).pl none, .blk b5 93 [.slice A4 (dayTo ts js who i).ends.length c4, .int .i64 (dayTo ts js who i).waits, .map (some b3), .map (some b4)], .mp b4 (dayTo ts js who i).others none, .mp b3 (dayTo ts js who i).towed none, .row A4 c4 3 1 (dayTo ts js who i).ends.length ((dayTo ts js who i).ends.flatMap intC), .blk b1 93 [.slice none 0 0, .int .i64 0, .map none, .map none]]) (fun s => match s with | (i, A4, c4) => js.length - i) (0, some ⟨b2, 0, none⟩, 0) ?_ (SubE.cons rfl (SubE.cons rfl (SubE.cons rfl (SubE.cons rfl (SubE.cons rfl (SubE.cons rfl (SubE.cons rfl (SubE.cons rfl (SubE.nil _))))))))) (List.Sublist.refl _) ?_
      · exact Nat.zero_le _
      · rintro ⟨i, A4, c4⟩ hi
        show Run _ _ _ _ _ [(2, .slice A3 who.length c3), (6, .pointer (some ⟨b1, 0, none⟩)), (7, .pointer (some ⟨b5, 0, none⟩)), (8, .map (some b6)), (9, .map (some b7)), (36, .slice A2 js.length c2), (37, .int .i64 (js.length : Int)), (38, .int .i64 (i : Int))] [.mp b7 (dayTo ts js who i).tk none, .mp b6 (dayTo ts js who i).pl none, .blk b5 93 [.slice A4 (dayTo ts js who i).ends.length c4, .int .i64 (dayTo ts js who i).waits, .map (some b3), .map (some b4)], .mp b4 (dayTo ts js who i).others none, .mp b3 (dayTo ts js who i).towed none, .row A4 c4 3 1 (dayTo ts js who i).ends.length ((dayTo ts js who i).ends.flatMap intC), .blk b1 93 [.slice none 0 0, .int .i64 0, .map none, .map none]] _
        have hin := day_in (who := who) hT hJ hi
        have hpl := hin.pl (nth who i)
        have htk := hin.tk (nth who i)
        have htw := hin.towed (nth who i)
        have hot := hin.others (nth who i)
        have hwt := hin.waits
        have hel := hin.ends
        refine Run.seq ?_
        refine Run.quiet (by intro h; cases h) ?_
        refine QOps.st rfl rfl (Yv.lss rfl rfl).yl ?_
        refine QOps.nil ?_
        refine Run.seq ?_
        refine Run.cond rfl (fun hc2 => ?_) (fun hc2 => ?_)
        · try replace hc2 := of_decide_eq_true hc2
          have hji := hJ.each i (by omega)
          have hbi := begin_in (who := who) hJ (show i < js.length by omega) hin
          simp only [beginAt, wayAt, towAt, nearAbs] at hbi
          refine Run.skip ?_
          refine Run.seq ?_
          refine Run.block ?_
          refine Run.seq ?_
          refine Run.ops ?_
          refine SOps.st rfl rfl (Yv.move rfl).yl ?_
          refine SOps.st rfl rfl (Yv.indexAddr i el42 rfl rfl rfl (Rd.arg hs2) (by omega)).yl ?_
          refine SOps.st rfl rfl (Yv.loadEs lay51 rfl Job.len (Rd.arg hs2) (by first | omega | (simp; omega)) (by decide)).yl ?_
          refine SOps.one rfl (One.alloc rfl zero51 (fun b9 => ?_))
          refine SOps.st rfl rfl (Yv.assign rfl).yl ?_
          refine SOps.one rfl (One.store (i := 0) (off := 0) (vs := [_, _, _, _, _]) (cs' := [_, _, _, _, _]) (H' := [_, _, _, _, _, _, _, _]) lay51 rfl rfl rfl rfl rfl rfl rfl rfl rfl rfl ?_)
          refine SOps.nil ?_
          refine Run.seq ?_
          refine Run.quiet (by intro h; cases h) ?_
          refine QOps.st rfl rfl (Yv.move rfl).yl ?_
          refine QOps.st rfl rfl (Yv.move rfl).yl ?_
          refine QOps.st rfl rfl (Yv.indexAddr i el43 rfl rfl rfl (Rd.arg hs3) (by omega)).yl ?_
          refine QOps.st rfl rfl (Yv.loadE lay3 rfl intC_len (Rd.arg hs3) (by first | omega | (simp; omega)) rfl).yl ?_
          refine QOps.st rfl rfl (Yv.assign rfl).yl ?_
          refine QOps.nil ?_
          refine Run.seq ?_
          refine Run.quiet (fun _ => ⟨by kernel_rfl, by kernel_rfl⟩) ?_
          refine QOps.st rfl rfl (Yv.move rfl).yl ?_
          refine QOps.st rfl rfl (Yv.move rfl).yl ?_
          refine QOps.st rfl rfl (Yv.lookup (i := 2) Try.underlying91 Try.underlying3 zmap91 rfl rfl rfl).yl ?_
          refine QOps.st rfl rfl (Yv.fieldAddr fld51_1 rfl).yl ?_
          refine QOps.st rfl rfl (Yv.loadB (i := 0) lay3 rfl rfl rfl rfl).yl ?_
          refine QOps.st rfl rfl (Yv.sub rfl rfl (by omega)).yl ?_
          refine QOps.st rfl rfl (Yl.call callable73 (.cons rfl (.nil)) (fun w' hw' => absOf_spec (by omega))) ?_
          refine QOps.st rfl rfl (Yv.fieldAddr fld51_1 rfl).yl ?_
          refine QOps.st rfl rfl (Yv.loadB (i := 0) lay3 rfl rfl rfl rfl).yl ?_
          refine QOps.st rfl rfl (Yv.fieldAddr fld51_2 rfl).yl ?_
          refine QOps.st rfl rfl (Yv.loadB (i := 0) lay3 rfl rfl rfl rfl).yl ?_
          refine QOps.st rfl rfl (Yv.sub rfl rfl (by omega)).yl ?_
          refine QOps.st rfl rfl (Yl.call callable73 (.cons rfl (.nil)) (fun w' hw' => absOf_spec (by omega))) ?_
          refine QOps.st rfl rfl (Yv.assign rfl).yl ?_
          refine QOps.st rfl rfl (Yv.assign rfl).yl ?_
          refine QOps.nil ?_
          refine Run.seq ?_
          refine Run.quiet (by intro h; cases h) ?_
          refine QOps.st rfl rfl (Yv.move rfl).yl ?_
          refine QOps.st rfl rfl (Yv.move rfl).yl ?_
          refine QOps.st rfl rfl (Yv.lookup (i := 1) Try.underlying91 Try.underlying3 zmap91 rfl rfl rfl).yl ?_
          refine QOps.st rfl rfl (Yv.move rfl).yl ?_
          refine QOps.st rfl rfl (Yv.add rfl rfl (by omega)).yl ?_
          refine QOps.st rfl rfl (Yv.fieldAddr fld51_4 rfl).yl ?_
          refine QOps.st rfl rfl (Yv.loadB (i := 0) lay3 rfl rfl rfl rfl).yl ?_
          refine QOps.st rfl rfl (Yv.max2 rfl rfl).yl ?_
          refine QOps.st rfl rfl (Yv.assign rfl).yl ?_
          refine QOps.nil ?_
          refine Run.seq ?_
          refine Run.ops ?_
          refine SOps.st rfl rfl (Yv.fieldAddr fld93_0 rfl).yl ?_
          refine SOps.st rfl rfl (Yv.loadB (i := 3) lay43 rfl rfl rfl rfl).yl ?_
          refine SOps.st rfl rfl (Yv.move rfl).yl ?_
          refine SOps.st rfl rfl (Yv.move rfl).yl ?_
          refine SOps.st rfl rfl (Yv.add rfl rfl (by omega)).yl ?_
          refine SOps.one rfl (One.buildSliceG (pv := [(0, _)]) (cs := [_]) (fun l => match l with | [a0_0] => [a0_0] | _ => []) rfl el43 (.cons rfl (.nil)) rfl rfl (by kernel_rfl) rfl rfl (fun b10 => ?_))
          refine SOps.one rfl (One.append (enc := intC) (l := (dayTo ts js who i).ends) (l2 := [((max (((dayTo ts js who i).tk (nth who (i))) + (absI (((dayTo ts js who i).pl (nth who (i))) - (nth js (i)).src))) (nth js (i)).ready) + (absI ((nth js (i)).src - (nth js (i)).dst)))]) (m' := ((dayTo ts js who i).ends ++ [((max (((dayTo ts js who i).tk (nth who (i))) + (absI (((dayTo ts js who i).pl (nth who (i))) - (nth js (i)).src))) (nth js (i)).ready) + (absI ((nth js (i)).src - (nth js (i)).dst)))]).length) (i := 7) (H' := fun A c => [_, _, _, _, _, _, _, _, _]) rfl el43 zero3 rfl (by decide) rfl rfl rfl (Rd.row (i := 0) rfl) (fun _ => rfl) (by simp) (by simp; omega) (by simp; omega) (fun _ _ => rfl) (fun A1 c1 => ?_))
          refine SOps.st rfl rfl (Yv.fieldAddr fld93_0 rfl).yl ?_
          refine SOps.one rfl (One.store (i := 4) (off := 0) (vs := [_]) (cs' := [_, _, _, _]) (H' := [_, _, _, _, _, _, _, _, _]) lay43 rfl rfl rfl rfl rfl rfl rfl rfl rfl rfl ?_)
          refine SOps.nil ?_
          refine Run.seq ?_
          refine Run.ops ?_
          refine SOps.st rfl rfl (Yv.fieldAddr fld93_1 rfl).yl ?_
          refine SOps.st rfl rfl (Yv.loadB (i := 4) lay3 rfl rfl rfl rfl).yl ?_
          refine SOps.st rfl rfl (Yv.move rfl).yl ?_
          refine SOps.st rfl rfl (Yv.fieldAddr fld51_4 rfl).yl ?_
          refine SOps.st rfl rfl (Yv.loadB (i := 1) lay3 rfl rfl rfl rfl).yl ?_
          refine SOps.st rfl rfl (Yv.sub rfl rfl (by omega)).yl ?_
          refine SOps.st rfl rfl (Yv.add rfl rfl (by omega)).yl ?_
          refine SOps.st rfl rfl (Yv.fieldAddr fld93_1 rfl).yl ?_
          refine SOps.one rfl (One.store (i := 4) (off := 1) (vs := [_]) (cs' := [_, _, _, _]) (H' := [_, _, _, _, _, _, _, _, _]) lay3 rfl rfl rfl rfl rfl rfl rfl rfl rfl rfl ?_)
          refine SOps.nil ?_
          refine Run.seq ?_
          refine Run.ops ?_
          refine SOps.st rfl rfl (Yv.fieldAddr fld93_2 rfl).yl ?_
          refine SOps.st rfl rfl (Yv.loadB (i := 4) lay91 rfl rfl rfl rfl).yl ?_
          refine SOps.st rfl rfl (Yv.move rfl).yl ?_
          refine SOps.st rfl rfl (Yv.lookup (i := 6) Try.underlying91 Try.underlying3 zmap91 rfl rfl rfl).yl ?_
          refine SOps.st rfl rfl (Yv.move rfl).yl ?_
          refine SOps.st rfl rfl (Yv.add rfl rfl (by omega)).yl ?_
          refine SOps.one rfl (One.mapUpdate (i := 6) (H' := [_, _, _, _, _, _, _, _, _]) Try.underlying91 Try.underlying3 rfl rfl rfl rfl rfl ?_)
          refine SOps.nil ?_
          refine Run.seq ?_
          refine Run.ops ?_
          refine SOps.st rfl rfl (Yv.fieldAddr fld93_3 rfl).yl ?_
          refine SOps.st rfl rfl (Yv.loadB (i := 4) lay91 rfl rfl rfl rfl).yl ?_
          refine SOps.st rfl rfl (Yv.move rfl).yl ?_
          refine SOps.st rfl rfl (Yv.lookup (i := 5) Try.underlying91 Try.underlying3 zmap91 rfl rfl rfl).yl ?_
          refine SOps.st rfl rfl (Yv.move rfl).yl ?_
          refine SOps.st rfl rfl (Yv.add rfl rfl (by omega)).yl ?_
          refine SOps.one rfl (One.mapUpdate (i := 5) (H' := [_, _, _, _, _, _, _, _, _]) Try.underlying91 Try.underlying3 rfl rfl rfl rfl rfl ?_)
          refine SOps.nil ?_
          refine Run.ops ?_
          refine SOps.st rfl rfl (Yv.move rfl).yl ?_
          refine SOps.st rfl rfl (Yv.move rfl).yl ?_
          refine SOps.st rfl rfl (Yv.move rfl).yl ?_
          refine SOps.st rfl rfl (Yv.move rfl).yl ?_
          refine SOps.st rfl rfl (Yv.fieldAddr fld51_2 rfl).yl ?_
          refine SOps.st rfl rfl (Yv.loadB (i := 1) lay3 rfl rfl rfl rfl).yl ?_
          refine SOps.st rfl rfl (Yv.move rfl).yl ?_
          refine SOps.st rfl rfl (Yv.move rfl).yl ?_
          refine SOps.st rfl rfl (Yv.add rfl rfl (by omega)).yl ?_
          refine SOps.one rfl (One.mapUpdate (i := 3) (H' := [_, _, _, _, _, _, _, _, _]) Try.underlying91 Try.underlying3 rfl rfl rfl rfl rfl ?_)
          refine SOps.one rfl (One.mapUpdate (i := 2) (H' := [_, _, _, _, _, _, _, _, _]) Try.underlying91 Try.underlying3 rfl rfl rfl rfl rfl ?_)
          refine SOps.nil ?_
          refine Run.quiet (by intro h; cases h) ?_
          refine QOps.st rfl rfl (Yv.succN rfl rfl (by omega)).yl ?_
          refine QOps.st rfl rfl (Yv.move rfl).yl ?_
          refine QOps.nil ?_
          refine ⟨(i + 1, _, _), ?_, ?_, (SubE.cons rfl (SubE.cons rfl (SubE.cons rfl (SubE.cons rfl (SubE.cons rfl (SubE.cons rfl (SubE.cons rfl (SubE.cons rfl (SubE.nil _))))))))), (List.Sublist.cons _ (List.Sublist.cons _ (List.Sublist.refl _)))⟩
          · show i + 1 ≤ _; omega
          · first | omega | (dsimp only; omega)
        · try replace hc2 := of_decide_eq_false hc2
          obtain rfl : i = js.length := by omega
          refine Run.exit ?_
          refine Run.seq ?_
          refine Run.ops ?_
          refine SOps.st rfl rfl (Yv.loadBs (i := 2) lay93 rfl rfl rfl rfl).yl ?_
          refine SOps.one rfl (One.store (i := 6) (off := 0) (vs := [_, _, _, _]) (cs' := [_, _, _, _]) (H' := [_, _, _, _, _, _, _]) lay93 rfl rfl rfl rfl rfl rfl rfl rfl rfl rfl ?_)
          refine SOps.nil ?_
          refine Run.ret ?_
          refine retQ.of (.inr rfl) rfl (.cells (i := 6) rfl lay93 rfl rfl .nil) (fun w' hw' => ?_)
          exact ⟨((A4, c4), b3, b4), rfl, trivial, hw'.sub (List.Sublist.cons _ (List.Sublist.cons _ (List.Sublist.cons _ (List.Sublist.cons_cons _ (List.Sublist.cons_cons _ (List.Sublist.cons_cons _ (List.nil_sublist _)))))))⟩
end Go.Proofs.Ytkkmmbogeeopaaa
