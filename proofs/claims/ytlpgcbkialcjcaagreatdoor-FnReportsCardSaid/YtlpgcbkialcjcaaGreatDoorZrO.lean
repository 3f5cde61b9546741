/- Reports: what the library's functions do here: Atoi, Split, Replace; numbers among words. Conditions: none. -/
import Derived.Test.YtlpgcbkialcjcaaGreatDoorZrN
import Derived.Lib.AtoiBound
import Derived.Lib.AtoiErrMem
namespace Go.Proofs.YtlpgcbkialcjcaaGreatDoor
open Go.RowKit
set_option maxRecDepth 100000
/-- What the package variables hold that the library's functions look at. -/
structure DoorW (w : World) : Prop where
  tab : Tab10 w
  max : ∃ m, w.cell? ⟨1, 0, none⟩ = some (.int .i64 m)
  syn : ∃ v, w.cell? ⟨5, 0, none⟩ = some v ∧ (v = .nilIface ∨ ∃ t u, v = .iface t u)
theorem DoorW.at {w w' : World} {H : List HEnt} (h : DoorW w) (hw : HOk w [] H w') : DoorW w' := by
  obtain ⟨m, hm⟩ := h.max
  obtain ⟨v, hv, hv2⟩ := h.syn
  exact ⟨tab_at h.tab hw, ⟨m, cell_stays hm hw⟩, ⟨v, cell_stays hv hw, hv2⟩⟩
theorem itoa_all {w : World} {n : Int} (hd : DoorW w) (h0 : -9223372036854775808 ≤ n) (h1 : n ≤ 9223372036854775807) : Calls Tryz.prog 52 #[.int .i64 n] w (RetB w (strV (Lib.itoa n))) :=
  (Tryz.strconv_Itoa n h0 h1 w hd.tab).mono fun e w' ⟨he, k, os, hw⟩ => ⟨he, by rw [hw]; exact Lib.below_grow _ _ (Nat.le_refl _) k os⟩
def AtoiOk (l : List UInt8) (x : Int × Value) : Prop := (Lib.atoi l = some x.1 ∧ x.2 = .nilIface) ∨ (Lib.atoi l = none ∧ x.1 = 0 ∧ ∃ t u, x.2 = .iface t u)
theorem AtoiOk.err {l : List UInt8} {x : Int} {e : Value} (h : AtoiOk l (x, e)) : e = .nilIface ∨ ∃ t u, e = .iface t u := by
  rcases h with h | h
  · exact .inl h.2
  · exact .inr h.2.2
theorem AtoiOk.bnd {l : List UInt8} {x : Int} {e : Value} (h : AtoiOk l (x, e)) (hl : l.length ≤ 18) : -9223372036854775808 ≤ x ∧ x ≤ 9223372036854775807 := by
  rcases h with h | h
  · have := Lib.atoi_bound h.1 hl
    exact ⟨by show (-9223372036854775808 : Int) ≤ x; omega, by show x ≤ (9223372036854775807 : Int); omega⟩
  · have : x = 0 := h.2.1
    omega
theorem Atoi_spec {w : World} {l : List UInt8} (hd : DoorW w) (hl : l.length ≤ 18) : Calls Tryz.prog 87 #[strV l] w (RetE w (fun (x : Int × Value) => .tuple #[.int .i64 x.1, x.2]) (AtoiOk l)) := by
  have hs : (ByteArray.mk l.toArray).size ≤ 18 := by rw [mk_size]; exact hl
  cases ha : Lib.atoi l with
  | some n =>
    refine (Tryz.strconv_Atoi ⟨l.toArray⟩ n hs (by simpa using ha) w).mono fun e w' ⟨he, t, hw⟩ => ⟨(n, .nilIface), he, .inl ⟨ha, rfl⟩, ?_⟩
    rw [hw]
    exact Lib.bytesWorld_below _ _ _
  | none =>
    obtain ⟨v, hv, hv2⟩ := hd.syn
    refine (Tryz.strconv_Atoi_err ⟨l.toArray⟩ hs (by simpa using ha) v w hv hv2).mono fun e w' ⟨N, he, h1, h2, h3⟩ => ⟨(0, _), he, .inr ⟨ha, rfl, _, _, rfl⟩, h3⟩
theorem bytes_map : ∀ L : List ByteArray, L.map Value.string = (L.map (·.data.toList)).flatMap strC
  | [] => rfl
  | b :: L => by
    rw [List.map_cons, List.map_cons, List.flatMap_cons, ← bytes_map L]
    rfl
theorem Split_spec {w : World} {l : List UInt8} {c : UInt8} (hd : DoorW w) (hl : l.length ≤ 1048576) : Calls Tryz.prog 30 #[strV l, strV [c]] w (RetRow w 9 1 (cutS c [] l).length ((cutS c [] l).flatMap strC) (fun v => v)) := by
  obtain ⟨m, hm⟩ := hd.max
  have hc : Lib.countB ⟨l.toArray⟩ ⟨[c].toArray⟩ = l.count c := by
    have := Lib.count_one c l
    simpa [Lib.countB] using this
  have hk : (Lib.splitB ⟨[c].toArray⟩ 0 (Lib.countB ⟨l.toArray⟩ ⟨[c].toArray⟩) ⟨l.toArray⟩).map (·.data.toList) = cutS c [] l := by
    rw [Lib.splitB_data, hc]
    exact splitK_cut (Nat.le_refl _)
  have hn : Lib.countB ⟨l.toArray⟩ ⟨[c].toArray⟩ + 1 = (cutS c [] l).length := by
    rw [← hk, List.length_map, Lib.splitB_all _ (by rw [mk_size]; simp) 0 _ _ rfl]
  have hcl : l.count c ≤ l.length := List.count_le_length
  refine (Tryz.strings_Split ⟨l.toArray⟩ ⟨[c].toArray⟩ m w (by rw [mk_size]; omega) hm (by rw [mk_size]; simp)).mono fun e w' ⟨he, hw⟩ => ?_
  rw [hn] at he
  rw [bytes_map, hk] at hw
  have hmx : (cutS c [] l).length ≤ maxLen := by
    rw [← hn, hc]
    simp only [maxLen]
    omega
  refine ⟨_, _, he, ?_, ?_, ?_⟩
  · rw [hw]
    exact below_alloc _ _
  · rw [hw]
    exact row_lit (w := w) (T := 9) (sz := 1) (m := (cutS c [] l).length) _ (by rw [flat_len strC_len]) hmx
  · intro b hb
    simp at hb
    omega
theorem Replace_spec {w : World} {l : List UInt8} {c : UInt8} (hd : DoorW w) (hl : l.length ≤ 1048576) : Calls Tryz.prog 31 #[strV l, strV [c], strV [], .int .i64 1] w (RetB w (strV (Lib.replace l [c] [] 1))) := by
  obtain ⟨m, hm⟩ := hd.max
  refine (Tryz.strings_Replace ⟨l.toArray⟩ ⟨[c].toArray⟩ ⟨[].toArray⟩ 1 m w (by rw [mk_size]; omega) hm (by rw [mk_size]; simp) (by rw [mk_size, mk_size]; simp; omega)).mono fun e w' ⟨he, hw⟩ => ⟨?_, hw⟩
  rw [he]
/-! Numbers -/
/-- A number's cell. -/
def intC (n : Int) : List Value := [.int .i64 n]
theorem intC_len (n : Int) : (intC n).length = 1 := rfl

theorem parse7_no {l : List UInt8} {x : Int} {e : Value} (h7 : ¬ 7 < l.length) (h : AtoiOk l (x, e)) (hc : (isErr e || !inB x (-999999) 999999 || !(Lib.itoa x == l)) = true) : parse7 l = (0, false) := by
  unfold parse7
  rw [if_neg h7]
  rcases h with h | h
  · have h1 : Lib.atoi l = some x := h.1
    have h2 : e = .nilIface := h.2
    subst h2
    rw [h1]
    simp only
    rw [if_neg]
    intro hh
    simp only [Bool.and_eq_true] at hh
    rw [hh.1, hh.2] at hc
    cases hc
  · rw [h.1]
theorem parse7_yes {l : List UInt8} {x : Int} {e : Value} (h7 : ¬ 7 < l.length) (h : AtoiOk l (x, e)) (hc : (isErr e || !inB x (-999999) 999999 || !(Lib.itoa x == l)) = false) : parse7 l = (x, true) := by
  unfold parse7
  rw [if_neg h7]
  simp only [Bool.or_eq_false_iff, Bool.not_eq_false'] at hc
  rcases h with h | h
  · have h1 : Lib.atoi l = some x := h.1
    rw [h1]
    simp only
    rw [if_pos (by rw [hc.1.2, hc.2]; rfl)]
  · obtain ⟨_, _, t, u, h3⟩ := h
    have h4 : e = .iface t u := h3
    subst h4
    exact absurd hc.1.1 (by simp [isErr])
theorem ParseInt_spec {w : World} {l : List UInt8} (hd : DoorW w) : Calls Tryz.prog 66 #[strV l] w (RetB w (.tuple #[.int .i64 (readR l).1, .bool (readR l).2])) := by
  rw [← parse7_read]
  refine calls_of_run (vs := [_]) (L := [(0, _)]) (n := 28) (F := []) (H := []) Tryz.func66 rfl rfl rfl rfl (HOk.start _) ?_
  refine Run.seq ?_
  refine Run.quiet (by intro h; cases h) ?_
  refine QOps.st rfl rfl (Yv.assign rfl).yl ?_
  refine QOps.st rfl rfl (Yv.assign rfl).yl ?_
  refine QOps.nil ?_
  refine Run.seq ?_
  refine Run.seq ?_
  refine Run.quiet (by intro h; cases h) ?_
  refine QOps.st rfl rfl (Yv.move rfl).yl ?_
  refine QOps.st rfl rfl (Yv.strLen (a := l) str9 rfl).yl ?_
  refine QOps.st rfl rfl (Yv.gtr rfl rfl).yl ?_
  refine QOps.nil ?_
  refine Run.cond rfl (fun hc1 => ?_) (fun hc1 => ?_)
  · try replace hc1 := of_decide_eq_true hc1
    refine Run.seq ?_
    refine Run.quiet (by intro h; cases h) ?_
    refine QOps.st rfl rfl (Yv.assign rfl).yl ?_
    refine QOps.st rfl rfl (Yv.assign rfl).yl ?_
    refine QOps.nil ?_
    refine Run.ret ?_
    refine retQ.of (.inr rfl) rfl (.tmp rfl (.tmp rfl .nil)) (fun w' hw' => ?_)
    refine ⟨?_, hw'.bel.below⟩
    unfold parse7; rw [if_pos (by omega)]; rfl
  · try replace hc1 := of_decide_eq_false hc1
    have h7 : ¬ 7 < l.length := by omega
    refine Run.skip ?_
    refine Run.seq ?_
    refine Run.ops ?_
    refine SOps.st rfl rfl (Yv.move rfl).yl ?_
    refine SOps.one rfl (One.callE rfl callable87 (.cons rfl (.nil)) (fun w' hw' => Atoi_spec (hd.at hw') (by omega)) ?_)
    rintro ⟨x1, e1⟩ hx1
    try dsimp only at *
    have hb1 := hx1.bnd (by omega)
    refine SOps.st rfl rfl (Yv.move rfl).yl ?_
    refine SOps.st rfl rfl (Yv.extract rfl rfl).yl ?_
    refine SOps.st rfl rfl (Yv.extract rfl rfl).yl ?_
    refine SOps.st rfl rfl (Yv.assign rfl).yl ?_
    refine SOps.st rfl rfl (Yv.assign rfl).yl ?_
    refine SOps.nil ?_
    refine Run.seq ?_
    refine Run.seq ?_
    refine Run.quiet (by intro h; cases h) ?_
    refine QOps.st rfl rfl (Yv.move rfl).yl ?_
    refine QOps.st rfl rfl (Yv.neNil Tryz.underlying84 rfl hx1.err).yl ?_
    refine QOps.st rfl rfl (Yv.move rfl).yl ?_
    refine' QOps.or [_, _, _] _ (.tmp 19) rfl rfl rfl rfl rfl rfl (fun hg1 => ?_) ?_
    rotate_left
    · try replace hg1 := of_decide_eq_false hg1
      refine QOps.st rfl rfl (Yv.move rfl).yl ?_
      refine QOps.st rfl rfl (Yl.call callable26 (.cons rfl (.cons rfl (.cons rfl (.nil)))) (fun w' hw' => inside_spec)) ?_
      refine QOps.st rfl rfl (Yv.not rfl).yl ?_
      exact QOps.nil rfl
    refine QOps.st rfl rfl (Yv.move rfl).yl ?_
    refine' QOps.or [_, _, _, _] _ (.tmp 25) rfl rfl rfl rfl rfl rfl (fun hg2 => ?_) ?_
    rotate_left
    · try replace hg2 := of_decide_eq_false hg2
      refine QOps.st rfl rfl (Yv.move rfl).yl ?_
      refine QOps.st rfl rfl (Yl.call callable52 (.cons rfl (.nil)) (fun w' hw' => itoa_all (hd.at hw') (by omega) (by omega))) ?_
      refine QOps.st rfl rfl (Yv.move rfl).yl ?_
      refine QOps.st rfl rfl (Yv.strNe (a := (Lib.itoa (x1))) (b := l) rfl rfl).yl ?_
      exact QOps.nil rfl
    refine QOps.nil ?_
    refine Run.cond rfl (fun hc2 => ?_) (fun hc2 => ?_)
    · try replace hc2 := of_decide_eq_true hc2
      refine Run.seq ?_
      refine Run.quiet (by intro h; cases h) ?_
      refine QOps.st rfl rfl (Yv.assign rfl).yl ?_
      refine QOps.st rfl rfl (Yv.assign rfl).yl ?_
      refine QOps.nil ?_
      refine Run.ret ?_
      refine retQ.of (.inr rfl) rfl (.tmp rfl (.tmp rfl .nil)) (fun w' hw' => ?_)
      refine ⟨?_, hw'.bel.below⟩
      rw [parse7_no h7 hx1 (by simpa using hc2)]; rfl
    · try replace hc2 := of_decide_eq_false hc2
      refine Run.skip ?_
      refine Run.seq ?_
      refine Run.quiet (by intro h; cases h) ?_
      refine QOps.st rfl rfl (Yv.move rfl).yl ?_
      refine QOps.st rfl rfl (Yv.assign rfl).yl ?_
      refine QOps.st rfl rfl (Yv.assign rfl).yl ?_
      refine QOps.nil ?_
      refine Run.ret ?_
      refine retQ.of (.inr rfl) rfl (.tmp rfl (.tmp rfl .nil)) (fun w' hw' => ?_)
      refine ⟨?_, hw'.bel.below⟩
      rw [parse7_yes h7 hx1 (by simpa using hc2)]; rfl
theorem numbersIn_spec {w : World} {A A2 : Option Addr} {c c2 : Nat} {ws : List (List UInt8)} {ps : List Int} (hd : DoorW w) (hs : Sl w 1 A ws.length c (ws.flatMap strC)) (hs2 : Sl w 1 A2 ps.length c2 (ps.flatMap intC)) (hnn : ∀ x ∈ ps, 0 ≤ x) (hpl : ps.length ≤ 100) :
    Calls Tryz.prog 32 #[.slice A ws.length c, .slice A2 ps.length c2] w (RetRow w 3 1 (numsL ws ps).length ((numsL ws ps).flatMap intC) (fun v => .tuple #[v, .bool (numsB ws ps)])) := by
  have hmx := Sl.lenle hs
  refine calls_of_run (vs := [_, _]) (L := [(0, _), (1, _)]) (n := 38) (F := []) (H := []) Tryz.func32 rfl rfl rfl rfl (HOk.start _) ?_
  refine Run.seq ?_
  refine Run.quiet (by intro h; cases h) ?_
  refine QOps.st rfl rfl (Yv.assign rfl).yl ?_
  refine QOps.st rfl rfl (Yv.assign rfl).yl ?_
  refine QOps.nil ?_
  refine Run.seq ?_
  refine Run.ops ?_
  refine SOps.one rfl (One.buildSliceG (pv := []) (cs := []) (fun _ => []) rfl el41 .nil rfl rfl (by kernel_rfl) rfl rfl (fun b1 => ?_))
  refine SOps.st rfl rfl (Yv.assign rfl).yl ?_
  refine SOps.nil ?_
  refine Run.seq ?_
  refine Run.seq ?_
  refine Run.quiet (by intro h; cases h) ?_
  refine QOps.st rfl rfl (Yv.move rfl).yl ?_
  refine QOps.st rfl rfl (Yv.lenS el41s rfl).yl ?_
  refine QOps.st rfl rfl (Yv.move rfl).yl ?_
  refine QOps.nil ?_
  refine Run.block ?_
  refine Run.loop (S := Nat × List Int × Option Addr × Nat) (fun s => match s with | (k, o, A3, c3) => k ≤ ps.length ∧ numsTo ws ps k = some o) (fun s => match s with | (k, o, A3, c3) => [(0, .slice A ws.length c), (6, .slice A3 o.length c3), (12, .slice A2 ps.length c2), (13, .int .i64 (ps.length : Int)), (14, .int .i64 (k : Int))]) (fun s => match s with | (k, o, A3, c3) => [.row A3 c3 3 1 o.length (o.flatMap intC)]) (fun s => match s with | (k, o, A3, c3) => ps.length - k) (0, [], some ⟨b1, 0, none⟩, 0) ?_ (SubE.cons rfl (SubE.cons rfl (SubE.cons rfl (SubE.cons rfl (SubE.cons rfl (SubE.nil _)))))) (List.Sublist.refl _) ?_
  · exact ⟨Nat.zero_le _, rfl⟩
  · rintro ⟨k, o, A3, c3⟩ ⟨hk, ho⟩
    show Run _ _ _ _ _ [(0, .slice A ws.length c), (6, .slice A3 o.length c3), (12, .slice A2 ps.length c2), (13, .int .i64 (ps.length : Int)), (14, .int .i64 (k : Int))] [.row A3 c3 3 1 o.length (o.flatMap intC)] _
    refine Run.seq ?_
    refine Run.quiet (by intro h; cases h) ?_
    refine QOps.st rfl rfl (Yv.lss rfl rfl).yl ?_
    refine QOps.nil ?_
    refine Run.seq ?_
    refine Run.cond rfl (fun hc1 => ?_) (fun hc1 => ?_)
    · try replace hc1 := of_decide_eq_true hc1
      have hp0 := hnn (nth ps k) (List.mem_of_getElem? (nth_get (by omega)))
      have hol := numsTo_len ho
      refine Run.skip ?_
      refine Run.seq ?_
      refine Run.block ?_
      refine Run.seq ?_
      refine Run.quiet (by intro h; cases h) ?_
      refine QOps.st rfl rfl (Yv.indexAddr k el41 rfl rfl rfl (Rd.arg hs2) (by omega)).yl ?_
      refine QOps.st rfl rfl (Yv.loadE lay3 rfl intC_len (Rd.arg hs2) (by first | omega | (simp; omega)) rfl).yl ?_
      refine QOps.st rfl rfl (Yv.assign rfl).yl ?_
      refine QOps.nil ?_
      refine Run.seq ?_
      refine Run.seq ?_
      refine Run.quiet (by intro h; cases h) ?_
      refine QOps.st rfl rfl (Yv.move rfl).yl ?_
      refine QOps.st rfl rfl (Yv.move rfl).yl ?_
      refine QOps.st rfl rfl (Yv.lenS el50s rfl).yl ?_
      refine QOps.st rfl rfl (Yv.geq rfl rfl).yl ?_
      refine QOps.nil ?_
      refine Run.cond rfl (fun hc2 => ?_) (fun hc2 => ?_)
      · try replace hc2 := of_decide_eq_true hc2
        have hz : numsTo ws ps ps.length = none := numsTo_none (k := k + 1) (by rw [numsTo, ho]; simp only; rw [if_pos hc2]) (by omega)
        have hz1 : numsL ws ps = [] := by unfold numsL; rw [hz]; rfl
        have hz2 : numsB ws ps = false := by unfold numsB; rw [hz]; rfl
        refine Run.seq ?_
        refine Run.quiet (by intro h; cases h) ?_
        refine QOps.st rfl rfl (Yv.assign rfl).yl ?_
        refine QOps.st rfl rfl (Yv.assign rfl).yl ?_
        refine QOps.nil ?_
        refine Run.ret ?_
        refine retQ.of (.inr rfl) rfl (.tmp rfl (.tmp rfl .nil)) (fun w' hw' => ?_)
        rw [hz1, hz2]; exact ⟨_, _, rfl, hw'.bel.below, ⟨by first | rfl | simp, .inl ⟨rfl, rfl⟩⟩, by simp⟩
      · try replace hc2 := of_decide_eq_false hc2
        refine Run.skip ?_
        refine Run.seq ?_
        refine Run.quiet (by intro h; cases h) ?_
        refine QOps.st rfl rfl (Yv.move rfl).yl ?_
        refine QOps.st rfl rfl (Yv.move rfl).yl ?_
        refine QOps.st rfl rfl (Yv.indexAddr (nth ps k).toNat el50 rfl rfl (by omega) (Rd.arg hs) (by omega)).yl ?_
        refine QOps.st rfl rfl (Yv.loadE lay9 rfl strC_len (Rd.arg hs) (by omega) rfl).yl ?_
        refine QOps.st rfl rfl (Yl.call callable66 (.cons rfl (.nil)) (fun w' hw' => ParseInt_spec (hd.at hw'))) ?_
        refine QOps.st rfl rfl (Yv.move rfl).yl ?_
        refine QOps.st rfl rfl (Yv.extract rfl rfl).yl ?_
        refine QOps.st rfl rfl (Yv.extract rfl rfl).yl ?_
        refine QOps.st rfl rfl (Yv.assign rfl).yl ?_
        refine QOps.st rfl rfl (Yv.assign rfl).yl ?_
        refine QOps.nil ?_
        refine Run.seq ?_
        refine Run.seq ?_
        refine Run.quiet (by intro h; cases h) ?_
        refine QOps.st rfl rfl (Yv.move rfl).yl ?_
        refine QOps.st rfl rfl (Yv.not rfl).yl ?_
        refine QOps.nil ?_
        refine Run.cond rfl (fun hc3 => ?_) (fun hc3 => ?_)
        · try replace hc3 := of_decide_eq_true hc3
          have hz : numsTo ws ps ps.length = none := numsTo_none (k := k + 1) (by rw [numsTo, ho]; simp only; rw [if_neg hc2, if_neg (by simpa using hc3)]) (by omega)
          have hz1 : numsL ws ps = [] := by unfold numsL; rw [hz]; rfl
          have hz2 : numsB ws ps = false := by unfold numsB; rw [hz]; rfl
          refine Run.seq ?_
          refine Run.quiet (by intro h; cases h) ?_
          refine QOps.st rfl rfl (Yv.assign rfl).yl ?_
          refine QOps.st rfl rfl (Yv.assign rfl).yl ?_
          refine QOps.nil ?_
          refine Run.ret ?_
          refine retQ.of (.inr rfl) rfl (.tmp rfl (.tmp rfl .nil)) (fun w' hw' => ?_)
          rw [hz1, hz2]; exact ⟨_, _, rfl, hw'.bel.below, ⟨by first | rfl | simp, .inl ⟨rfl, rfl⟩⟩, by simp⟩
        · try replace hc3 := of_decide_eq_false hc3
          refine Run.skip ?_
          refine Run.ops ?_
          refine SOps.st rfl rfl (Yv.move rfl).yl ?_
          refine SOps.st rfl rfl (Yv.move rfl).yl ?_
          refine SOps.one rfl (One.buildSliceG (pv := [(0, _)]) (cs := [_]) (fun l => match l with | [a0_0] => [a0_0] | _ => []) rfl el41 (.cons rfl (.nil)) rfl rfl (by kernel_rfl) rfl rfl (fun b2 => ?_))
          refine SOps.one rfl (One.append (enc := intC) (l := o) (l2 := [(readR (nth ws (nth ps k).toNat)).1]) (m' := (o ++ [(readR (nth ws (nth ps k).toNat)).1]).length) (i := 1) (H' := fun A c => [_, _]) rfl el41 zero3 rfl (by decide) rfl rfl rfl (Rd.row (i := 0) rfl) (fun _ => rfl) (by simp) (by simp; omega) (by simp; omega) (fun _ _ => rfl) (fun A1 c1 => ?_))
          refine SOps.st rfl rfl (Yv.assign rfl).yl ?_
          refine SOps.nil ?_
          refine Run.quiet (by intro h; cases h) ?_
          refine QOps.st rfl rfl (Yv.succN rfl rfl (by omega)).yl ?_
          refine QOps.st rfl rfl (Yv.move rfl).yl ?_
          refine QOps.nil ?_
          refine ⟨(k + 1, _, _, _), ?_, ?_, (SubE.cons rfl (SubE.cons rfl (SubE.cons rfl (SubE.cons rfl (SubE.cons rfl (SubE.nil _)))))), (List.Sublist.cons _ (List.Sublist.refl _))⟩
          · exact ⟨by omega, by rw [numsTo, ho]; simp only; rw [if_neg hc2, if_pos (by simpa using hc3)]⟩
          · first | omega | (dsimp only; omega)
    · try replace hc1 := of_decide_eq_false hc1
      obtain rfl : k = ps.length := by omega
      have hz1 : numsL ws ps = o := by unfold numsL; rw [ho]; rfl
      have hz2 : numsB ws ps = true := by unfold numsB; rw [ho]; rfl
      refine Run.exit ?_
      refine Run.seq ?_
      refine Run.quiet (by intro h; cases h) ?_
      refine QOps.st rfl rfl (Yv.move rfl).yl ?_
      refine QOps.st rfl rfl (Yv.assign rfl).yl ?_
      refine QOps.st rfl rfl (Yv.assign rfl).yl ?_
      refine QOps.nil ?_
      refine Run.ret ?_
      refine retQ.of (.inr rfl) rfl (.tmp rfl (.tmp rfl .nil)) (fun w' hw' => ?_)
      rw [hz1, hz2]; exact ⟨_, _, rfl, hw'.bel.below, hw'.ent _ (List.mem_of_getElem? (i := 0) rfl), fun g hg => (hw'.own _ (List.mem_of_getElem? (i := 0) rfl) g hg).elim id (by simp)⟩
end Go.Proofs.YtlpgcbkialcjcaaGreatDoor
