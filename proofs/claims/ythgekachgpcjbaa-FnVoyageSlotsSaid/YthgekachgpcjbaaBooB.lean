/- Bookings: the locks and slots of a vessel. Conditions: none. -/
import Derived.Test.YthgekachgpcjbaaBooA
namespace Go.Proofs.Ythgekachgpcjbaa
open Go.RowKit
set_option maxRecDepth 100000
/-- One pair of a lock and a slot stands ahead of another. -/
def lt2 (x y : List Int) : Bool := decide (nth x 1 < nth y 1) || (decide (nth y 1 = nth x 1) && decide (nth x 0 < nth y 0))
theorem or2_neg {a b d e : Int} : (decide (orI [cmpI a b, cmpI d e] < 0)) = (decide (a < b) || (decide (b = a) && decide (d < e))) := by
  rcases Int.lt_trichotomy a b with h | h | h
  · simp [orI, cmpI_lt h, h]
  · subst h
    have e0 : cmpI a a = 0 := cmpI_eq rfl
    rcases Int.lt_trichotomy d e with h2 | h2 | h2
    · simp [orI, e0, cmpI_lt h2, h2]
    · subst h2
      have e1 : cmpI d d = 0 := cmpI_eq rfl
      simp [orI, e0, e1]
    · simp [orI, e0, cmpI_gt h2]
      omega
  · simp [orI, cmpI_gt h]
    omega
def pairsTo (bs : List Booking) (v : Int) : Nat → List (List Int)
  | 0 => []
  | k + 1 => if (nth bs k).vessel = v then pairsTo bs v k ++ [[(nth bs k).lock, (nth bs k).slot]] else pairsTo bs v k
theorem pairsTo_yes {bs : List Booking} {v : Int} {k : Nat} (h : (nth bs k).vessel = v) : pairsTo bs v (k + 1) = pairsTo bs v k ++ [[(nth bs k).lock, (nth bs k).slot]] := by rw [pairsTo, if_pos h]
theorem pairsTo_no {bs : List Booking} {v : Int} {k : Nat} (h : ¬ (nth bs k).vessel = v) : pairsTo bs v (k + 1) = pairsTo bs v k := by rw [pairsTo, if_neg h]
theorem pairsTo_two {bs : List Booking} {v : Int} : ∀ {k : Nat}, ∀ x ∈ pairsTo bs v k, x.length = 2
  | 0, x, h => by simp [pairsTo] at h
  | k + 1, x, h => by
    rw [pairsTo] at h
    split at h
    · rcases List.mem_append.1 h with h | h
      · exact pairsTo_two x h
      · rw [List.mem_singleton] at h
        rw [h]; rfl
    · exact pairsTo_two x h
theorem pairsTo_len {bs : List Booking} {v : Int} : ∀ {k : Nat}, (pairsTo bs v k).length ≤ k
  | 0 => by simp [pairsTo]
  | k + 1 => by
    have ih := pairsTo_len (bs := bs) (v := v) (k := k)
    rw [pairsTo]
    split
    · simp; omega
    · omega
/-- The pairs of a vessel, sorted. -/
def voyS (bs : List Booking) (v : Int) (k : Nat) : List (List Int) := srtL lt2 (pairsTo bs v k) (pairsTo bs v k).length
theorem nth_pre {α : Type} [Inhabited α] {l r : List α} {i : Nat} (h : i < l.length) : nth (l ++ r) i = nth l i := by simp [nth, List.getElem?_append_left h]
theorem srtL_app {α : Type} [Inhabited α] {lt : α → α → Bool} {l : List α} {x : α} : ∀ {k : Nat}, k ≤ l.length → srtL lt (l ++ [x]) k = srtL lt l k
  | 0, _ => rfl
  | k + 1, h => by rw [srtL, srtL, srtL_app (by omega), nth_pre (by omega)]
theorem voyS_yes {bs : List Booking} {v : Int} {k : Nat} (h : (nth bs k).vessel = v) : voyS bs v (k + 1) = insL lt2 (voyS bs v k) [(nth bs k).lock, (nth bs k).slot] := by
  unfold voyS
  have e : nth (pairsTo bs v k ++ [[(nth bs k).lock, (nth bs k).slot]]) (pairsTo bs v k).length = [(nth bs k).lock, (nth bs k).slot] := by simp [nth]
  rw [pairsTo_yes h, show (pairsTo bs v k ++ [[(nth bs k).lock, (nth bs k).slot]]).length = (pairsTo bs v k).length + 1 by simp, srtL, srtL_app (Nat.le_refl _), e]
theorem voyS_no {bs : List Booking} {v : Int} {k : Nat} (h : ¬ (nth bs k).vessel = v) : voyS bs v (k + 1) = voyS bs v k := by
  unfold voyS
  rw [pairsTo_no h]
theorem voyS_len {bs : List Booking} {v : Int} {k : Nat} : (voyS bs v k).length = (pairsTo bs v k).length := srtL_len
theorem voyS_two {bs : List Booking} {v : Int} {k : Nat} : ∀ x ∈ voyS bs v k, x.length = 2 := fun x hx => by
  have h := (srtL_perm (lt := lt2) (l := pairsTo bs v k) (Nat.le_refl _)).mem_iff.2 hx
  rw [List.take_length] at h
  exact pairsTo_two x h
def voyOk (room : Int) (bs : List Booking) (v : Int) : Bool := areBookings room bs && inB v 1 99
def voyL (room : Int) (bs : List Booking) (v : Int) : List (List Int) := if voyOk room bs v = true then voyS bs v bs.length else []
theorem voyL_two {room v : Int} {bs : List Booking} : ∀ x ∈ voyL room bs v, x.length = 2 := fun x hx => by
  unfold voyL at hx
  split at hx
  · exact voyS_two x hx
  · simp at hx
theorem voyL_len {room v : Int} {bs : List Booking} : (voyL room bs v).length ≤ bs.length := by
  unfold voyL
  split
  · rw [voyS_len]; exact pairsTo_len
  · simp
theorem rs_two {rs : List (InR Int)} {ls : List (List Int)} (h : rs.map InR.l = ls) (h2 : ∀ x ∈ ls, x.length = 2) : ∀ x ∈ rs, x.l.length = 2 := fun x hx => h2 _ (by rw [← h]; exact List.mem_map_of_mem hx)
theorem cfLt (x y : InR Int) : ltC (fun x y => orI [cmpI (nth x.l 1) (nth y.l 1), cmpI (nth x.l 0) (nth y.l 0)]) x y = lt2 x.l y.l := by
  unfold ltC lt2
  exact or2_neg
theorem vs1_spec {w : World} {Aa Ab : Option Addr} {ca cb : Nat} {la lb : List Int} (ha : Sl w 1 Aa la.length ca (la.flatMap intC)) (hb : Sl w 1 Ab lb.length cb (lb.flatMap intC)) (h2a : la.length = 2) (h2b : lb.length = 2) :
    Calls Try.prog 75 (#[] ++ [.slice Aa la.length ca, .slice Ab lb.length cb].toArray ++ #[]) w (RetB w (.int .i64 (orI [cmpI (nth la 1) (nth lb 1), cmpI (nth la 0) (nth lb 0)]))) := by
  rw [show (#[] ++ [Value.slice Aa la.length ca, .slice Ab lb.length cb].toArray ++ #[]) = #[.slice Aa la.length ca, .slice Ab lb.length cb] from rfl]
  refine calls_of_run (vs := [_, _]) (L := [(0, _), (1, _)]) (n := 21) (F := []) (H := []) Try.func75 rfl rfl rfl rfl (HOk.start _) ?_
  refine Run.seq ?_
  refine Run.quiet (by intro h; cases h) ?_
  refine QOps.st rfl rfl (Yv.assign rfl).yl ?_
  refine QOps.nil ?_
  refine Run.seq ?_
  refine Run.draws (fun H => H) (m := 17) (listed := #[false, false, false, false, false, false, false, false, false, false, false, false, false, false, false, false, false]) (by kernel_rfl) rfl rfl ?_
  refine DOps.take (listed' := #[true, false, false, false, false, false, false, false, false, false, false, false, false, false, false, false, false]) 0 rfl (by kernel_rfl) rfl List.Sublist.slnil rfl rfl (Yv.move rfl) ?_
  refine DOps.take (listed' := #[true, true, false, false, false, false, false, false, false, false, false, false, false, false, false, false, false]) 1 rfl (by kernel_rfl) rfl List.Sublist.slnil rfl rfl (Yv.indexAddr 1 el85 rfl rfl rfl (Rd.arg ha) (by omega)) ?_
  refine DOps.take (listed' := #[true, true, true, false, false, false, false, false, false, false, false, false, false, false, false, false, false]) 2 rfl (by kernel_rfl) rfl List.Sublist.slnil rfl rfl (Yv.loadE lay3 rfl intC_len (Rd.arg ha) (by first | omega | (simp; omega)) rfl) ?_
  refine DOps.take (listed' := #[true, true, true, true, false, false, false, false, false, false, false, false, false, false, false, false, false]) 3 rfl (by kernel_rfl) rfl List.Sublist.slnil rfl rfl (Yv.move rfl) ?_
  refine DOps.take (listed' := #[true, true, true, true, true, false, false, false, false, false, false, false, false, false, false, false, false]) 4 rfl (by kernel_rfl) rfl List.Sublist.slnil rfl rfl (Yv.indexAddr 1 el85 rfl rfl rfl (Rd.arg hb) (by omega)) ?_
  refine DOps.take (listed' := #[true, true, true, true, true, true, false, false, false, false, false, false, false, false, false, false, false]) 5 rfl (by kernel_rfl) rfl List.Sublist.slnil rfl rfl (Yv.loadE lay3 rfl intC_len (Rd.arg hb) (by first | omega | (simp; omega)) rfl) ?_
  refine DOps.take (listed' := #[true, true, true, true, true, true, false, true, false, false, false, false, false, false, false, false, false]) 7 rfl (by kernel_rfl) rfl List.Sublist.slnil rfl rfl (Yv.move rfl) ?_
  refine DOps.take (listed' := #[true, true, true, true, true, true, false, true, true, false, false, false, false, false, false, false, false]) 8 rfl (by kernel_rfl) rfl List.Sublist.slnil rfl rfl (Yv.indexAddr 0 el85 rfl rfl rfl (Rd.arg ha) (by omega)) ?_
  refine DOps.take (listed' := #[true, true, true, true, true, true, false, true, true, true, false, false, false, false, false, false, false]) 9 rfl (by kernel_rfl) rfl List.Sublist.slnil rfl rfl (Yv.loadE lay3 rfl intC_len (Rd.arg ha) (by first | omega | (simp; omega)) rfl) ?_
  refine DOps.take (listed' := #[true, true, true, true, true, true, false, true, true, true, true, false, false, false, false, false, false]) 10 rfl (by kernel_rfl) rfl List.Sublist.slnil rfl rfl (Yv.move rfl) ?_
  refine DOps.take (listed' := #[true, true, true, true, true, true, false, true, true, true, true, true, false, false, false, false, false]) 11 rfl (by kernel_rfl) rfl List.Sublist.slnil rfl rfl (Yv.indexAddr 0 el85 rfl rfl rfl (Rd.arg hb) (by omega)) ?_
  refine DOps.take (listed' := #[true, true, true, true, true, true, false, true, true, true, true, true, true, false, false, false, false]) 12 rfl (by kernel_rfl) rfl List.Sublist.slnil rfl rfl (Yv.loadE lay3 rfl intC_len (Rd.arg hb) (by first | omega | (simp; omega)) rfl) ?_
  refine DOps.only (listed' := #[true, true, true, true, true, true, true, true, true, true, true, true, true, false, false, false, false]) 6 rfl (by kernel_rfl) rfl rfl ?_
  refine One.st rfl (Yl.call callable62 (.cons rfl (.cons rfl (.nil))) (fun w' hw' => Compare_spec)) ?_
  refine ⟨List.Sublist.slnil, ?_⟩
  refine DOps.only (listed' := #[true, true, true, true, true, true, true, true, true, true, true, true, true, true, false, false, false]) 13 rfl (by kernel_rfl) rfl rfl ?_
  refine One.st rfl (Yl.call callable62 (.cons rfl (.cons rfl (.nil))) (fun w' hw' => Compare_spec)) ?_
  refine ⟨List.Sublist.slnil, ?_⟩
  refine DOps.only (listed' := #[true, true, true, true, true, true, true, true, true, true, true, true, true, true, true, false, false]) 14 rfl (by kernel_rfl) rfl rfl ?_
  refine One.buildSliceG (pv := [(0, _), (1, _)]) (cs := [_, _]) (fun l => match l with | [a0_0, a1_0] => [a0_0, a1_0] | _ => []) rfl el85 (.cons rfl (.cons rfl (.nil))) rfl rfl (by kernel_rfl) rfl rfl (fun b1 => ?_)
  refine ⟨(List.nil_sublist _), ?_⟩
  refine DOps.only (listed' := #[true, true, true, true, true, true, true, true, true, true, true, true, true, true, true, true, false]) 15 rfl (by kernel_rfl) rfl rfl ?_
  refine One.st rfl (Yl.call callable61 (.cons rfl (.nil)) (fun w' hw' => Or_spec (l := [cmpI (nth la 1) (nth lb 1), cmpI (nth la 0) (nth lb 0)]) (Rd.row (i := 0) rfl w' hw'))) ?_
  refine ⟨(List.nil_sublist _), ?_⟩
  refine DOps.take (listed' := #[true, true, true, true, true, true, true, true, true, true, true, true, true, true, true, true, true]) 16 rfl (by kernel_rfl) rfl (List.nil_sublist _) rfl rfl (Yv.assign rfl) ?_
  refine DOps.done (by kernel_rfl) ?_
  refine Run.ret ?_
  refine retQ.of (.inr rfl) rfl (.tmp rfl .nil) (fun w' hw' => ?_)
  refine ⟨?_, hw'.bel.below⟩
  exact rfl
/-- The inner rows, where the outer one alone was written. -/
theorem HOk.innerKept {w0 w w' : World} {F : List Nat} {H1 : List HEnt} {T To sz i c m : Nat} {enc : Int → List Value} {A : Option Addr} {xs : List Value} {rs : List (InR Int)} (hw : HOk w0 F (H1 ++ rs.map (InR.row T sz enc)) w) (hi : H1[i]? = some (.row A c To 1 m xs)) (hb : Bel (A.map (·.block)).toList w w') : ∀ x ∈ rs, x.rd w' sz enc := fun x hx => by
  have hmem : x.row T sz enc ∈ H1 ++ rs.map (InR.row T sz enc) := List.mem_append_right _ (List.mem_map_of_mem hx)
  have hok := hw.ent _ hmem
  refine sl_of_row (T := T) (hok.kept (fun g hg => hb.block g (hok.lt g hg) (fun hg2 => ?_)))
  have h3 := (List.pairwise_append.1 hw.sep).2.2 _ (List.mem_of_getElem? hi) _ (List.mem_map_of_mem hx)
  exact h3 g (Option.mem_toList.1 hg2) hg
theorem VoyageSlots_spec {w : World} {A : Option Addr} {c : Nat} {room v : Int} {bs : List Booking} (hs : Sl w 4 A bs.length c (bs.flatMap Booking.enc)) :
    Calls Try.prog 42 #[.int .i64 room, .slice A bs.length c, .int .i64 v] w (RetTab w 85 3 1 intC (voyL room bs v) (fun x => .tuple #[x, .bool (voyOk room bs v)])) := by
  have hmx := Sl.lenle hs
  refine calls_of_run (vs := [_, _, _]) (L := [(0, _), (1, _), (2, _)]) (n := 43) (F := []) (H := []) Try.func42 rfl rfl rfl rfl (HOk.start _) ?_
  refine Run.seq ?_
  refine Run.quiet (by intro h; cases h) ?_
  refine QOps.st rfl rfl (Yv.assign rfl).yl ?_
  refine QOps.st rfl rfl (Yv.assign rfl).yl ?_
  refine QOps.nil ?_
  refine Run.seq ?_
  refine Run.seq ?_
  refine Run.quiet (by intro h; cases h) ?_
  refine QOps.st rfl rfl (Yv.move rfl).yl ?_
  refine QOps.st rfl rfl (Yv.move rfl).yl ?_
  refine QOps.st rfl rfl (Yl.call callable17 (.cons rfl (.cons rfl (.nil))) (fun w' hw' => AreBookings_spec ((Rd.arg hs) w' hw'))) ?_
  refine QOps.st rfl rfl (Yv.not rfl).yl ?_
  refine QOps.st rfl rfl (Yv.move rfl).yl ?_
  refine' QOps.or [_, _, _] _ (.tmp 18) rfl rfl rfl rfl rfl rfl (fun hg1 => ?_) ?_
  rotate_left
  · try replace hg1 := of_decide_eq_false hg1
    refine QOps.st rfl rfl (Yv.move rfl).yl ?_
    refine QOps.st rfl rfl (Yl.call callable52 (.cons rfl (.cons rfl (.cons rfl (.nil)))) (fun w' hw' => inside_spec)) ?_
    refine QOps.st rfl rfl (Yv.not rfl).yl ?_
    exact QOps.nil rfl
  refine QOps.nil ?_
  refine Run.cond rfl (fun hc1 => ?_) (fun hc1 => ?_)
  · try replace hc1 := of_decide_eq_true hc1
    have hn : voyOk room bs v = false := by unfold voyOk; revert hc1; cases areBookings room bs <;> cases inB v 1 99 <;> simp
    refine Run.seq ?_
    refine Run.quiet (by intro h; cases h) ?_
    refine QOps.st rfl rfl (Yv.assign rfl).yl ?_
    refine QOps.st rfl rfl (Yv.assign rfl).yl ?_
    refine QOps.nil ?_
    refine Run.ret ?_
    refine retQ.of (.inr rfl) rfl (.tmp rfl (.tmp rfl .nil)) (fun w' hw' => ?_)
    unfold voyL; rw [if_neg (by rw [hn]; simp), hn]
    exact retTab_nil hw' rfl
  · try replace hc1 := of_decide_eq_false hc1
    have hy : voyOk room bs v = true := by unfold voyOk; revert hc1; cases areBookings room bs <;> cases inB v 1 99 <;> simp
    have hA : areBookings room bs = true := by have h2 := hy; unfold voyOk at h2; rw [Bool.and_eq_true] at h2; exact h2.1
    have hl10 := (are_parts hA).2.1
    refine Run.skip ?_
    refine Run.seq ?_
    refine Run.ops ?_
    refine SOps.one rfl (One.buildSliceG (pv := []) (cs := []) (fun _ => []) rfl el56 .nil rfl rfl (by kernel_rfl) rfl rfl (fun b1 => ?_))
    refine SOps.st rfl rfl (Yv.assign rfl).yl ?_
    refine SOps.nil ?_
    refine Run.seq ?_
    refine Run.seq ?_
    refine Run.quiet (by intro h; cases h) ?_
    refine QOps.st rfl rfl (Yv.move rfl).yl ?_
    refine QOps.st rfl rfl (Yv.lenS el25s rfl).yl ?_
    refine QOps.st rfl rfl (Yv.move rfl).yl ?_
    refine QOps.nil ?_
    refine Run.block ?_
    refine Run.loop (S := Nat × List (InR Int) × Option Addr × Nat) (fun s => match s with | (k, rs, A2, c2) => k ≤ bs.length ∧ rs.length ≤ k ∧ rs.map InR.l = pairsTo bs v k) (fun s => match s with | (k, rs, A2, c2) => [(2, .int .i64 v), (8, .slice A2 rs.length c2), (21, .slice A bs.length c), (22, .int .i64 (bs.length : Int)), (23, .int .i64 (k : Int))]) (fun s => match s with | (k, rs, A2, c2) => (.row A2 c2 85 1 rs.length (rs.flatMap InR.enc) :: rs.map (InR.row 3 1 intC))) (fun s => match s with | (k, rs, A2, c2) => bs.length - k) (0, [], some ⟨b1, 0, none⟩, 0) ?_ (SubE.cons rfl (SubE.cons rfl (SubE.cons rfl (SubE.cons rfl (SubE.cons rfl (SubE.nil _)))))) (List.Sublist.refl _) ?_
    · exact ⟨by omega, by simp, rfl⟩
    · rintro ⟨k, rs, A2, c2⟩ ⟨hk, hrl, hrs⟩
      show Run _ _ _ _ _ [(2, .int .i64 v), (8, .slice A2 rs.length c2), (21, .slice A bs.length c), (22, .int .i64 (bs.length : Int)), (23, .int .i64 (k : Int))] (.row A2 c2 85 1 rs.length (rs.flatMap InR.enc) :: rs.map (InR.row 3 1 intC)) _
      refine Run.seq ?_
      refine Run.quiet (by intro h; cases h) ?_
      refine QOps.st rfl rfl (Yv.lss rfl rfl).yl ?_
      refine QOps.nil ?_
      refine Run.seq ?_
      refine Run.cond rfl (fun hc2 => ?_) (fun hc2 => ?_)
      · try replace hc2 := of_decide_eq_true hc2
        refine Run.skip ?_
        refine Run.seq ?_
        refine Run.block ?_
        refine Run.seq ?_
        refine Run.ops ?_
        refine SOps.st rfl rfl (Yv.indexAddr k el25 rfl rfl rfl (Rd.arg hs) (by omega)).yl ?_
        refine SOps.st rfl rfl (Yv.loadEs lay49 rfl Booking.len (Rd.arg hs) (by first | omega | (simp; omega)) (by decide)).yl ?_
        refine SOps.one rfl (One.alloc rfl zero49 (fun b2 => ?_))
        refine SOps.one rfl (One.store (i := 0) (off := 0) (vs := [_, _, _, _]) (cs' := [_, _, _, _]) (H' := (_ :: _ :: _)) lay49 rfl rfl rfl rfl rfl rfl rfl rfl rfl rfl ?_)
        refine SOps.nil ?_
        refine Run.seq ?_
        refine Run.quiet (by intro h; cases h) ?_
        refine QOps.st rfl rfl (Yv.fieldAddr fld49_1 rfl).yl ?_
        refine QOps.st rfl rfl (Yv.loadB (i := 0) lay3 rfl rfl rfl rfl).yl ?_
        refine QOps.st rfl rfl (Yv.move rfl).yl ?_
        refine QOps.st rfl rfl (Yv.eqI rfl rfl).yl ?_
        refine QOps.nil ?_
        refine Run.cond rfl (fun hc3 => ?_) (fun hc3 => ?_)
        · try replace hc3 := of_decide_eq_true hc3
          refine Run.ops ?_
          refine SOps.st rfl rfl (Yv.move rfl).yl ?_
          refine SOps.st rfl rfl (Yv.fieldAddr fld49_2 rfl).yl ?_
          refine SOps.st rfl rfl (Yv.loadB (i := 0) lay3 rfl rfl rfl rfl).yl ?_
          refine SOps.st rfl rfl (Yv.fieldAddr fld49_3 rfl).yl ?_
          refine SOps.st rfl rfl (Yv.loadB (i := 0) lay3 rfl rfl rfl rfl).yl ?_
          refine SOps.one rfl (One.buildSliceG (pv := [(0, _), (1, _)]) (cs := [_, _]) (fun l => match l with | [a0_0, a1_0] => [a0_0, a1_0] | _ => []) rfl el85 (.cons rfl (.cons rfl (.nil))) rfl rfl (by kernel_rfl) rfl rfl (fun b3 => ?_))
          refine SOps.one rfl (One.buildSliceG (pv := [(0, _)]) (cs := [_]) (fun l => match l with | [a0_0] => [a0_0] | _ => []) rfl el56 (.cons rfl (.nil)) rfl rfl (by kernel_rfl) rfl rfl (fun b4 => ?_))
          refine SOps.one rfl (One.append (enc := InR.enc) (l := rs) (l2 := [(⟨(some ⟨b3, 0, none⟩), 2, [(nth bs (k)).lock, (nth bs (k)).slot]⟩ : InR Int)]) (m' := (rs ++ [(⟨(some ⟨b3, 0, none⟩), 2, [(nth bs (k)).lock, (nth bs (k)).slot]⟩ : InR Int)]).length) (i := 3) (H' := fun A c => (_ :: _ :: _ :: _ :: _)) rfl el56 zero85 rfl (by decide) rfl rfl rfl (Rd.row (i := 0) rfl) (fun _ => rfl) (by simp) (by simp; omega) (by simp; omega) (fun _ _ => rfl) (fun A1 c1 => ?_))
          refine SOps.st rfl rfl (Yv.assign rfl).yl ?_
          refine SOps.nil ?_
          refine Run.weak (List.Sublist.cons _ (List.Sublist.cons_cons _ (List.Sublist.cons _ (List.Sublist.refl _)))) ?_
          refine Run.innerTo (T := 3) (sz := 1) (enc := intC) (H1 := [_]) (A := (some ⟨b3, 0, none⟩)) (l := [(nth bs (k)).lock, (nth bs (k)).slot]) (rs' := (rs ++ [⟨(some ⟨b3, 0, none⟩), 2, [(nth bs (k)).lock, (nth bs (k)).slot]⟩])) (r := []) rfl perm_snoc ?_
          refine Run.quiet (by intro h; cases h) ?_
          refine QOps.st rfl rfl (Yv.succN rfl rfl (by omega)).yl ?_
          refine QOps.st rfl rfl (Yv.move rfl).yl ?_
          refine QOps.nil ?_
          refine ⟨(k + 1, rs ++ [_], _, _), ?_, ?_, (SubE.cons rfl (SubE.cons rfl (SubE.cons rfl (SubE.cons rfl (SubE.cons rfl (SubE.nil _)))))), (List.Sublist.refl _)⟩
          · exact ⟨by omega, by simp; omega, by rw [pairsTo_yes hc3, ← hrs]; simp⟩
          · first | omega | (dsimp only; omega)
        · try replace hc3 := of_decide_eq_false hc3
          refine Run.skip ?_
          refine Run.quiet (by intro h; cases h) ?_
          refine QOps.st rfl rfl (Yv.succN rfl rfl (by omega)).yl ?_
          refine QOps.st rfl rfl (Yv.move rfl).yl ?_
          refine QOps.nil ?_
          refine ⟨(k + 1, rs, A2, c2), ?_, ?_, (SubE.cons rfl (SubE.cons rfl (SubE.cons rfl (SubE.cons rfl (SubE.cons rfl (SubE.nil _)))))), (List.Sublist.cons _ (List.Sublist.refl _))⟩
          · exact ⟨by omega, by omega, by rw [pairsTo_no hc3, ← hrs]⟩
          · first | omega | (dsimp only; omega)
      · try replace hc2 := of_decide_eq_false hc2
        refine Run.exit ?_
        refine Run.seq ?_
        refine Run.ops ?_
        refine SOps.st rfl rfl (Yv.move rfl).yl ?_
        refine SOps.one rfl (One.callMut (i := 0) (H' := (_ :: _)) rfl callable74 (.cons rfl (.cons rfl (.nil))) rfl (fun w' hw' => SortFunc_spec (cf := (fun x y => orI [cmpI (nth x.l 1) (nth y.l 1), cmpI (nth x.l 0) (nth y.l 0)])) (hw'.ent _ (List.mem_of_getElem? (i := 0) rfl)) rfl (by omega) callable75 (fun w'' hb x y hx hy => vs1_spec (HOk.innerKept (H1 := [_]) hw' (i := 0) rfl hb x hx) (HOk.innerKept (H1 := [_]) hw' (i := 0) rfl hb y hy) (rs_two hrs pairsTo_two x hx) (rs_two hrs pairsTo_two y hy))) rfl ?_)
        refine SOps.nil ?_
        refine Run.seq ?_
        refine Run.tailPerm (H1 := [_]) (rs' := srtL (ltC (fun x y => orI [cmpI (nth x.l 1) (nth y.l 1), cmpI (nth x.l 0) (nth y.l 0)])) rs rs.length) (by have h9 := srtL_perm (lt := ltC (fun x y => orI [cmpI (nth x.l 1) (nth y.l 1), cmpI (nth x.l 0) (nth y.l 0)])) (l := rs) (Nat.le_refl _); rwa [List.take_length] at h9) ?_
        refine Run.quiet (by intro h; cases h) ?_
        refine QOps.st rfl rfl (Yv.move rfl).yl ?_
        refine QOps.st rfl rfl (Yv.assign rfl).yl ?_
        refine QOps.st rfl rfl (Yv.assign rfl).yl ?_
        refine QOps.nil ?_
        refine Run.ret ?_
        obtain rfl : k = bs.length := by omega
        refine retQ.of (.inr rfl) rfl (.tmp rfl (.tmp rfl .nil)) (fun w' hw' => ?_)
        unfold voyL; rw [if_pos hy, hy]
        exact retTab_own2 srtL_len hw' (by rw [srtL_map cfLt (Nat.le_refl _), hrs, show rs.length = (pairsTo bs v bs.length).length by rw [← hrs]; simp]; rfl) rfl (List.Sublist.refl _)
theorem ins_map {rs : List (InR Int)} {x : InR Int} {X : List Int} {s : List (List Int)} {q : Nat} (hrs : rs.map InR.l = s) (hx : x.l = X) (hp : posL lt2 X s s.length = q) : (rs.take q ++ [x] ++ rs.drop q).map InR.l = insL lt2 s X := by
  subst hrs; subst hx; subst hp
  unfold insL
  simp
theorem l18Slots_spec {w : World} {A : Option Addr} {c : Nat} {v : Int} {bs : List Booking} (hs : Sl w 4 A bs.length c (bs.flatMap Booking.enc)) (hl10 : bs.length ≤ 1048576) :
    Calls Try.prog 73 #[.slice A bs.length c, .int .i64 v] w (RetTab w 85 3 1 intC (voyS bs v bs.length) (fun x => x)) := by
  have hmx := Sl.lenle hs
  refine calls_of_run (vs := [_, _]) (L := [(0, _), (1, _)]) (n := 83) (F := []) (H := []) Try.func73 rfl rfl rfl rfl (HOk.start _) ?_
  refine Run.seq ?_
  refine Run.quiet (by intro h; cases h) ?_
  refine QOps.st rfl rfl (Yv.assign rfl).yl ?_
  refine QOps.nil ?_
  refine Run.seq ?_
  refine Run.ops ?_
  refine SOps.one rfl (One.buildSliceG (pv := []) (cs := []) (fun _ => []) rfl el56 .nil rfl rfl (by kernel_rfl) rfl rfl (fun b1 => ?_))
  refine SOps.st rfl rfl (Yv.assign rfl).yl ?_
  refine SOps.nil ?_
  refine Run.seq ?_
  refine Run.seq ?_
  refine Run.quiet (by intro h; cases h) ?_
  refine QOps.st rfl rfl (Yv.assign rfl).yl ?_
  refine QOps.nil ?_
  refine Run.block ?_
  refine Run.loop (S := Nat × List (InR Int) × Option Addr × Nat) (fun s => match s with | (k, rs, A2, c2) => k ≤ bs.length ∧ rs.length ≤ k ∧ rs.map InR.l = voyS bs v k) (fun s => match s with | (k, rs, A2, c2) => [(0, .slice A bs.length c), (1, .int .i64 v), (5, .slice A2 rs.length c2), (6, .int .i64 (k : Int))]) (fun s => match s with | (k, rs, A2, c2) => (.row A2 c2 85 1 rs.length (rs.flatMap InR.enc) :: rs.map (InR.row 3 1 intC))) (fun s => match s with | (k, rs, A2, c2) => bs.length - k) (0, [], some ⟨b1, 0, none⟩, 0) ?_ (SubE.cons rfl (SubE.cons rfl (SubE.cons rfl (SubE.cons rfl (SubE.nil _))))) (List.Sublist.refl _) ?_
  · exact ⟨by omega, by simp, rfl⟩
  · rintro ⟨k, rs, A2, c2⟩ ⟨hk, hrl, hrs⟩
    show Run _ _ _ _ _ [(0, .slice A bs.length c), (1, .int .i64 v), (5, .slice A2 rs.length c2), (6, .int .i64 (k : Int))] (.row A2 c2 85 1 rs.length (rs.flatMap InR.enc) :: rs.map (InR.row 3 1 intC)) _
    have h2 := rs_two hrs voyS_two
    have hvl : (voyS bs v k).length = rs.length := by rw [← hrs]; simp
    refine Run.seq ?_
    refine Run.seq ?_
    refine Run.quiet (by intro h; cases h) ?_
    refine QOps.st rfl rfl (Yv.move rfl).yl ?_
    refine QOps.st rfl rfl (Yv.move rfl).yl ?_
    refine QOps.st rfl rfl (Yv.lenS el25s rfl).yl ?_
    refine QOps.st rfl rfl (Yv.lss rfl rfl).yl ?_
    refine QOps.nil ?_
    refine Run.cond rfl (fun hc1 => ?_) (fun hc1 => ?_)
    · try replace hc1 := of_decide_eq_true hc1
      refine Run.skip ?_
      refine Run.seq ?_
      refine Run.block ?_
      refine Run.seq ?_
      refine Run.ops ?_
      refine SOps.st rfl rfl (Yv.move rfl).yl ?_
      refine SOps.st rfl rfl (Yv.move rfl).yl ?_
      refine SOps.st rfl rfl (Yv.indexAddr k el25 rfl rfl rfl (Rd.arg hs) (by omega)).yl ?_
      refine SOps.st rfl rfl (Yv.loadEs lay49 rfl Booking.len (Rd.arg hs) (by first | omega | (simp; omega)) (by decide)).yl ?_
      refine SOps.one rfl (One.alloc rfl zero49 (fun b2 => ?_))
      refine SOps.one rfl (One.store (i := 0) (off := 0) (vs := [_, _, _, _]) (cs' := [_, _, _, _]) (H' := (_ :: _ :: _)) lay49 rfl rfl rfl rfl rfl rfl rfl rfl rfl rfl ?_)
      refine SOps.nil ?_
      refine Run.seq ?_
      refine Run.seq ?_
      refine Run.quiet (by intro h; cases h) ?_
      refine QOps.st rfl rfl (Yv.fieldAddr fld49_1 rfl).yl ?_
      refine QOps.st rfl rfl (Yv.loadB (i := 0) lay3 rfl rfl rfl rfl).yl ?_
      refine QOps.st rfl rfl (Yv.move rfl).yl ?_
      refine QOps.st rfl rfl (Yv.neI rfl rfl).yl ?_
      refine QOps.nil ?_
      refine Run.cond rfl (fun hc2 => ?_) (fun hc2 => ?_)
      · try replace hc2 := of_decide_eq_true hc2
        refine Run.exit ?_
        refine Run.quiet (by intro h; cases h) ?_
        refine QOps.st rfl rfl (Yv.move rfl).yl ?_
        refine QOps.st rfl rfl (Yv.succN rfl rfl (by omega)).yl ?_
        refine QOps.st rfl rfl (Yv.assign rfl).yl ?_
        refine QOps.nil ?_
        refine ⟨(k + 1, rs, A2, c2), ?_, ?_, (SubE.cons rfl (SubE.cons rfl (SubE.cons rfl (SubE.cons rfl (SubE.nil _))))), (List.Sublist.cons _ (List.Sublist.refl _))⟩
        · exact ⟨by omega, by omega, by rw [voyS_no (by simpa using hc2), ← hrs]⟩
        · first | omega | (dsimp only; omega)
      · try replace hc2 := of_decide_eq_false hc2
        have hv : (nth bs k).vessel = v := by simpa using hc2
        refine Run.skip ?_
        refine Run.seq ?_
        refine Run.quiet (by intro h; cases h) ?_
        refine QOps.st rfl rfl (Yv.move rfl).yl ?_
        refine QOps.st rfl rfl (Yv.lenS el56s rfl).yl ?_
        refine QOps.st rfl rfl (Yv.assign rfl).yl ?_
        refine QOps.nil ?_
        refine Run.seq ?_
        refine Run.block ?_
        refine Run.loop (S := Nat) (fun s => match s with | q => q ≤ rs.length ∧ posL lt2 [(nth bs k).lock, (nth bs k).slot] (voyS bs v k) (voyS bs v k).length = posL lt2 [(nth bs k).lock, (nth bs k).slot] (voyS bs v k) q) (fun s => match s with | q => [(0, .slice A bs.length c), (1, .int .i64 v), (5, .slice A2 rs.length c2), (6, .int .i64 (k : Int)), (7, .pointer (some ⟨b2, 0, none⟩)), (8, .int .i64 (q : Int))]) (fun s => match s with | q => (.blk b2 49 (Booking.enc (nth bs (k))) :: .row A2 c2 85 1 rs.length (rs.flatMap InR.enc) :: rs.map (InR.row 3 1 intC))) (fun s => match s with | q => q) rs.length ?_ (SubE.cons rfl (SubE.cons rfl (SubE.cons rfl (SubE.cons rfl (SubE.cons rfl (SubE.cons rfl (SubE.nil _))))))) (List.Sublist.refl _) ?_
        · exact ⟨Nat.le_refl _, by rw [hvl]⟩
        · rintro q ⟨hql, hq⟩
          show Run _ _ _ _ _ [(0, .slice A bs.length c), (1, .int .i64 v), (5, .slice A2 rs.length c2), (6, .int .i64 (k : Int)), (7, .pointer (some ⟨b2, 0, none⟩)), (8, .int .i64 (q : Int))] (.blk b2 49 (Booking.enc (nth bs (k))) :: .row A2 c2 85 1 rs.length (rs.flatMap InR.enc) :: rs.map (InR.row 3 1 intC)) _
          refine Run.seq ?_
          refine Run.seq ?_
          refine Run.quiet (fun _ => ⟨by kernel_rfl, by kernel_rfl⟩) ?_
          refine QOps.st rfl rfl (Yv.move rfl).yl ?_
          refine QOps.st rfl rfl (Yv.gtr rfl rfl).yl ?_
          refine QOps.st rfl rfl (Yv.move rfl).yl ?_
          refine' QOps.and [_, _, _, _, _, _, _, _, _, _, _, _, _, _, _, _, _, _, _, _, _, _, _, _, _, _, _, _, _, _, _, _, _, _] _ (.tmp 62) rfl rfl rfl rfl rfl rfl (fun hg1 => ?_) ?_
          rotate_left
          · try replace hg1 := of_decide_eq_true hg1
            have hq2 := h2 _ (nthMem (show q - 1 < rs.length by omega))
            refine QOps.st rfl rfl (Yv.move rfl).yl ?_
            refine QOps.st rfl rfl (Yv.move rfl).yl ?_
            refine QOps.st rfl rfl (Yv.sub rfl rfl (by omega)).yl ?_
            refine QOps.st rfl rfl (Yv.indexAddr (q - 1) el56 rfl rfl (by omega) (Rd.row (i := 1) rfl) (by omega)).yl ?_
            refine QOps.st rfl rfl (Yv.loadE (k := (q - 1)) lay85 rfl InR.len (Rd.row (i := 1) rfl) (by first | omega | (simp; omega)) rfl).yl ?_
            refine QOps.st rfl rfl (Yv.indexAddr 1 el85 rfl rfl rfl (Rd.innerOf (H1 := [_, _]) (rs := rs) (k := (q - 1)) (by omega) (fun x hx => hx)) (by omega)).yl ?_
            refine QOps.st rfl rfl (Yv.loadE lay3 rfl intC_len (Rd.innerOf (H1 := [_, _]) (rs := rs) (k := (q - 1)) (by omega) (fun x hx => hx)) (by first | omega | (simp; omega)) rfl).yl ?_
            refine QOps.st rfl rfl (Yv.fieldAddr fld49_3 rfl).yl ?_
            refine QOps.st rfl rfl (Yv.loadB (i := 0) lay3 rfl rfl rfl rfl).yl ?_
            refine QOps.st rfl rfl (Yv.gtr rfl rfl).yl ?_
            refine QOps.st rfl rfl (Yv.move rfl).yl ?_
            refine' QOps.or [_, _, _, _, _, _, _, _, _, _, _, _, _, _, _, _, _, _, _, _, _, _] _ (.tmp 61) rfl rfl rfl rfl rfl rfl (fun hg2 => ?_) ?_
            rotate_left
            · try replace hg2 := of_decide_eq_false hg2
              refine QOps.st rfl rfl (Yv.move rfl).yl ?_
              refine QOps.st rfl rfl (Yv.move rfl).yl ?_
              refine QOps.st rfl rfl (Yv.sub rfl rfl (by omega)).yl ?_
              refine QOps.st rfl rfl (Yv.indexAddr (q - 1) el56 rfl rfl (by omega) (Rd.row (i := 1) rfl) (by omega)).yl ?_
              refine QOps.st rfl rfl (Yv.loadE (k := (q - 1)) lay85 rfl InR.len (Rd.row (i := 1) rfl) (by first | omega | (simp; omega)) rfl).yl ?_
              refine QOps.st rfl rfl (Yv.indexAddr 1 el85 rfl rfl rfl (Rd.innerOf (H1 := [_, _]) (rs := rs) (k := (q - 1)) (by omega) (fun x hx => hx)) (by omega)).yl ?_
              refine QOps.st rfl rfl (Yv.loadE lay3 rfl intC_len (Rd.innerOf (H1 := [_, _]) (rs := rs) (k := (q - 1)) (by omega) (fun x hx => hx)) (by first | omega | (simp; omega)) rfl).yl ?_
              refine QOps.st rfl rfl (Yv.fieldAddr fld49_3 rfl).yl ?_
              refine QOps.st rfl rfl (Yv.loadB (i := 0) lay3 rfl rfl rfl rfl).yl ?_
              refine QOps.st rfl rfl (Yv.eqI rfl rfl).yl ?_
              refine QOps.st rfl rfl (Yv.move rfl).yl ?_
              refine' QOps.and [_, _, _, _, _, _, _, _, _, _] _ (.tmp 60) rfl rfl rfl rfl rfl rfl (fun hg3 => ?_) ?_
              rotate_left
              · try replace hg3 := of_decide_eq_true hg3
                refine QOps.st rfl rfl (Yv.move rfl).yl ?_
                refine QOps.st rfl rfl (Yv.move rfl).yl ?_
                refine QOps.st rfl rfl (Yv.sub rfl rfl (by omega)).yl ?_
                refine QOps.st rfl rfl (Yv.indexAddr (q - 1) el56 rfl rfl (by omega) (Rd.row (i := 1) rfl) (by omega)).yl ?_
                refine QOps.st rfl rfl (Yv.loadE (k := (q - 1)) lay85 rfl InR.len (Rd.row (i := 1) rfl) (by first | omega | (simp; omega)) rfl).yl ?_
                refine QOps.st rfl rfl (Yv.indexAddr 0 el85 rfl rfl rfl (Rd.innerOf (H1 := [_, _]) (rs := rs) (k := (q - 1)) (by omega) (fun x hx => hx)) (by omega)).yl ?_
                refine QOps.st rfl rfl (Yv.loadE lay3 rfl intC_len (Rd.innerOf (H1 := [_, _]) (rs := rs) (k := (q - 1)) (by omega) (fun x hx => hx)) (by first | omega | (simp; omega)) rfl).yl ?_
                refine QOps.st rfl rfl (Yv.fieldAddr fld49_2 rfl).yl ?_
                refine QOps.st rfl rfl (Yv.loadB (i := 0) lay3 rfl rfl rfl rfl).yl ?_
                refine QOps.st rfl rfl (Yv.gtr rfl rfl).yl ?_
                exact QOps.nil rfl
              exact QOps.nil rfl
            exact QOps.nil rfl
          refine QOps.nil ?_
          refine Run.cond rfl (fun hc3 => ?_) (fun hc3 => ?_)
          · try replace hc3 := of_decide_eq_true hc3
            have hq0 : 0 < q := by simp at hc3; omega
            have hlt : lt2 [(nth bs k).lock, (nth bs k).slot] (nth (voyS bs v k) (q - 1)) = true := by
                  rw [← hrs, nth_mapl (by omega)]
                  rw [Bool.and_eq_true] at hc3
                  exact hc3.2
            refine Run.skip ?_
            refine Run.block ?_
            refine Run.quiet (by intro h; cases h) ?_
            refine QOps.st rfl rfl (Yv.move rfl).yl ?_
            refine QOps.st rfl rfl (Yv.sub rfl rfl (by omega)).yl ?_
            refine QOps.st rfl rfl (Yv.assign rfl).yl ?_
            refine QOps.nil ?_
            refine ⟨q - 1, ?_, ?_, (SubE.cons rfl (SubE.cons rfl (SubE.cons rfl (SubE.cons rfl (SubE.cons rfl (SubE.cons (congrArg some (by congr 1; omega)) (SubE.nil _))))))), (List.Sublist.refl _)⟩
            · exact ⟨by omega, hq.trans (posL_step hq0 hlt)⟩
            · first | omega | (dsimp only; omega)
          · try replace hc3 := of_decide_eq_false hc3
            have hstop : posL lt2 [(nth bs k).lock, (nth bs k).slot] (voyS bs v k) q = q := posL_stop (fun hq0 h => by
                  rw [← hrs, nth_mapl (by omega)] at h
                  have h8 : (decide (nth [(nth bs k).lock, (nth bs k).slot] 1 < nth (nth rs (q - 1)).l 1) || (decide (nth (nth rs (q - 1)).l 1 = nth [(nth bs k).lock, (nth bs k).slot] 1) && decide (nth [(nth bs k).lock, (nth bs k).slot] 0 < nth (nth rs (q - 1)).l 0))) = true := h
                  have h9 : (decide ((0 : Int) < (q : Int)) && (decide ((nth bs k).slot < nth (nth rs (q - 1)).l 1) || (decide (nth (nth rs (q - 1)).l 1 = (nth bs k).slot) && decide ((nth bs k).lock < nth (nth rs (q - 1)).l 0)))) = true := by rw [Bool.and_eq_true]; exact ⟨decide_eq_true (by omega), h8⟩
                  rw [h9] at hc3
                  cases hc3)
            refine Run.exit ?_
            refine Run.capRow (i := 1) rfl (fun hcp => ?_)
            refine Run.draws (fun H => H) (m := 17) (listed := #[false, false, false, false, false, false, false, false, false, false, false, false, false, false, false, false, false]) (by kernel_rfl) rfl rfl ?_
            refine DOps.take (listed' := #[false, true, false, false, false, false, false, false, false, false, false, false, false, false, false, false, false]) 1 rfl (by kernel_rfl) rfl (List.Sublist.refl _) rfl rfl (Yv.move rfl) ?_
            refine DOps.take (listed' := #[false, true, true, false, false, false, false, false, false, false, false, false, false, false, false, false, false]) 2 rfl (by kernel_rfl) rfl (List.Sublist.refl _) rfl rfl (Yv.move rfl) ?_
            refine DOps.take (listed' := #[false, true, true, true, false, false, false, false, false, false, false, false, false, false, false, false, false]) 3 rfl (by kernel_rfl) rfl (List.Sublist.refl _) rfl rfl (Yv.cutTo0 q el56 rfl rfl rfl (by omega)) ?_
            refine DOps.take (listed' := #[false, true, true, true, false, true, false, false, false, false, false, false, false, false, false, false, false]) 5 rfl (by kernel_rfl) rfl (List.Sublist.refl _) rfl rfl (Yv.fieldAddr fld49_2 rfl) ?_
            refine DOps.take (listed' := #[false, true, true, true, false, true, true, false, false, false, false, false, false, false, false, false, false]) 6 rfl (by kernel_rfl) rfl (List.Sublist.refl _) rfl rfl (Yv.loadB (i := 0) lay3 rfl rfl rfl rfl) ?_
            refine DOps.take (listed' := #[false, true, true, true, false, true, true, true, false, false, false, false, false, false, false, false, false]) 7 rfl (by kernel_rfl) rfl (List.Sublist.refl _) rfl rfl (Yv.fieldAddr fld49_3 rfl) ?_
            refine DOps.take (listed' := #[false, true, true, true, false, true, true, true, true, false, false, false, false, false, false, false, false]) 8 rfl (by kernel_rfl) rfl (List.Sublist.refl _) rfl rfl (Yv.loadB (i := 0) lay3 rfl rfl rfl rfl) ?_
            refine DOps.take (listed' := #[false, true, true, true, false, true, true, true, true, false, false, false, true, false, false, false, false]) 12 rfl (by kernel_rfl) rfl (List.Sublist.refl _) rfl rfl (Yv.move rfl) ?_
            refine DOps.take (listed' := #[false, true, true, true, false, true, true, true, true, false, false, false, true, true, false, false, false]) 13 rfl (by kernel_rfl) rfl (List.Sublist.refl _) rfl rfl (Yv.move rfl) ?_
            refine DOps.take (listed' := #[false, true, true, true, false, true, true, true, true, false, false, false, true, true, true, false, false]) 14 rfl (by kernel_rfl) rfl (List.Sublist.refl _) rfl rfl (Yv.cutFrom q el56 rfl rfl rfl (by omega)) ?_
            refine DOps.fork2 (l1 := #[true, true, true, true, false, true, true, true, true, false, false, false, true, true, true, false, false]) (l2 := #[false, true, true, true, false, true, true, true, true, true, false, false, true, true, true, false, false]) 0 9 rfl rfl (by kernel_rfl) rfl rfl rfl rfl ?_ ?_
            ·
              refine One.buildSliceG (pv := []) (cs := []) (fun _ => []) rfl el56 .nil rfl rfl (by kernel_rfl) rfl rfl (fun b3 => ?_)
              refine ⟨(List.Sublist.cons _ (List.Sublist.refl _)), ?_⟩
              refine DOps.fork2 (l1 := #[true, true, true, true, true, true, true, true, true, false, false, false, true, true, true, false, false]) (l2 := #[true, true, true, true, false, true, true, true, true, true, false, false, true, true, true, false, false]) 4 9 rfl rfl (by kernel_rfl) rfl rfl rfl rfl ?_ ?_
              ·
                refine One.append (enc := InR.enc) (l := ([] : List (InR Int))) (l2 := (rs.take q)) (m' := (([] : List (InR Int)) ++ (rs.take q)).length) (i := 0) (H' := fun A c => (_ :: _ :: _ :: _)) rfl el56 zero85 rfl (by decide) rfl rfl rfl (Rd.cut0 (xs := rs) InR.len (Rd.row (i := 2) rfl) (by omega)) (fun _ => rfl) (by first | (simp; done) | (simp; omega)) (by simp; omega) (by simp; omega) (fun _ _ => rfl) (fun A1 c1 => ?_)
                refine ⟨(List.Sublist.cons _ (List.Sublist.refl _)), ?_⟩
                refine DOps.only (listed' := #[true, true, true, true, true, true, true, true, true, true, false, false, true, true, true, false, false]) 9 rfl (by kernel_rfl) rfl rfl ?_
                refine One.buildSliceG (pv := [(0, _), (1, _)]) (cs := [_, _]) (fun l => match l with | [a0_0, a1_0] => [a0_0, a1_0] | _ => []) rfl el85 (.cons rfl (.cons rfl (.nil))) rfl rfl (by kernel_rfl) rfl rfl (fun b4 => ?_)
                refine ⟨(List.Sublist.cons _ (List.Sublist.cons _ (List.Sublist.refl _))), ?_⟩
                refine DOps.only (listed' := #[true, true, true, true, true, true, true, true, true, true, true, false, true, true, true, false, false]) 10 rfl (by kernel_rfl) rfl rfl ?_
                refine One.buildSliceG (pv := [(0, _)]) (cs := [_]) (fun l => match l with | [a0_0] => [a0_0] | _ => []) rfl el56 (.cons rfl (.nil)) rfl rfl (by kernel_rfl) rfl rfl (fun b5 => ?_)
                refine ⟨(List.Sublist.cons _ (List.Sublist.cons _ (List.Sublist.cons _ (List.Sublist.refl _)))), ?_⟩
                refine DOps.only (listed' := #[true, true, true, true, true, true, true, true, true, true, true, true, true, true, true, false, false]) 11 rfl (by kernel_rfl) rfl rfl ?_
                refine One.append (enc := InR.enc) (l := (([] : List (InR Int)) ++ (rs.take q))) (l2 := [(⟨(some ⟨b4, 0, none⟩), 2, [(nth bs (k)).lock, (nth bs (k)).slot]⟩ : InR Int)]) (m' := ((([] : List (InR Int)) ++ (rs.take q)) ++ [(⟨(some ⟨b4, 0, none⟩), 2, [(nth bs (k)).lock, (nth bs (k)).slot]⟩ : InR Int)]).length) (i := 2) (H' := fun A c => (_ :: _ :: _ :: _ :: _ :: _)) rfl el56 zero85 rfl (by decide) rfl rfl rfl (Rd.row (i := 0) rfl) (fun _ => rfl) (by first | (simp; done) | (simp; omega)) (by simp; omega) (by simp; omega) (fun _ _ => rfl) (fun A2 c2 => ?_)
                refine ⟨(List.Sublist.cons _ (List.Sublist.cons _ (List.Sublist.cons _ (List.Sublist.refl _)))), ?_⟩
                refine DOps.only (listed' := #[true, true, true, true, true, true, true, true, true, true, true, true, true, true, true, true, false]) 15 rfl (by kernel_rfl) rfl rfl ?_
                refine One.append (enc := InR.enc) (l := ((([] : List (InR Int)) ++ (rs.take q)) ++ [(⟨(some ⟨b4, 0, none⟩), 2, [(nth bs (k)).lock, (nth bs (k)).slot]⟩ : InR Int)])) (l2 := (rs.drop q)) (m' := (((([] : List (InR Int)) ++ (rs.take q)) ++ [(⟨(some ⟨b4, 0, none⟩), 2, [(nth bs (k)).lock, (nth bs (k)).slot]⟩ : InR Int)]) ++ (rs.drop q)).length) (i := 2) (H' := fun A c => (_ :: _ :: _ :: _ :: _ :: _)) rfl el56 zero85 rfl (by decide) rfl rfl rfl (Rd.cutF (xs := rs) InR.len (Rd.row (i := 4) rfl) rfl (by omega)) (fun _ => rfl) (by first | (simp; done) | (simp; omega)) (by simp; omega) (by simp; omega) (fun _ _ => rfl) (fun A3 c3 => ?_)
                refine ⟨(List.Sublist.cons _ (List.Sublist.cons _ (List.Sublist.cons _ (List.Sublist.refl _)))), ?_⟩
                refine DOps.take (listed' := #[true, true, true, true, true, true, true, true, true, true, true, true, true, true, true, true, true]) 16 rfl (by kernel_rfl) rfl (List.Sublist.cons _ (List.Sublist.cons _ (List.Sublist.cons _ (List.Sublist.refl _)))) rfl rfl (Yv.assign rfl) ?_
                refine DOps.done (by kernel_rfl) ?_
                refine Run.weak (List.Sublist.cons _ (List.Sublist.cons_cons _ (List.Sublist.cons_cons _ (List.Sublist.cons _ (List.Sublist.cons _ (List.Sublist.refl _)))))) ?_
                refine Run.innerTo (T := 3) (sz := 1) (enc := intC) (H1 := [_]) (A := (some ⟨b4, 0, none⟩)) (l := [(nth bs (k)).lock, (nth bs (k)).slot]) (rs' := (rs.take q ++ [⟨(some ⟨b4, 0, none⟩), 2, [(nth bs (k)).lock, (nth bs (k)).slot]⟩] ++ rs.drop q)) (r := []) rfl perm_ins ?_
                refine Run.quiet (by intro h; cases h) ?_
                refine QOps.st rfl rfl (Yv.move rfl).yl ?_
                refine QOps.st rfl rfl (Yv.succN rfl rfl (by omega)).yl ?_
                refine QOps.st rfl rfl (Yv.assign rfl).yl ?_
                refine QOps.nil ?_
                refine ⟨(k + 1, rs.take q ++ [_] ++ rs.drop q, _, _), ?_, ?_, (SubE.cons rfl (SubE.cons rfl (SubE.cons rfl (SubE.cons rfl (SubE.nil _))))), (List.Sublist.refl _)⟩
                · exact ⟨by omega, by simp; omega, by rw [voyS_yes hv]; exact ins_map hrs rfl (hq.trans hstop)⟩
                · first | omega | (dsimp only; omega)
              ·
                refine One.buildSliceG (pv := [(0, _), (1, _)]) (cs := [_, _]) (fun l => match l with | [a0_0, a1_0] => [a0_0, a1_0] | _ => []) rfl el85 (.cons rfl (.cons rfl (.nil))) rfl rfl (by kernel_rfl) rfl rfl (fun b4 => ?_)
                refine ⟨(List.Sublist.cons _ (List.Sublist.cons _ (List.Sublist.refl _))), ?_⟩
                refine DOps.fork2 (l1 := #[true, true, true, true, true, true, true, true, true, true, false, false, true, true, true, false, false]) (l2 := #[true, true, true, true, false, true, true, true, true, true, true, false, true, true, true, false, false]) 4 10 rfl rfl (by kernel_rfl) rfl rfl rfl rfl ?_ ?_
                ·
                  refine One.append (enc := InR.enc) (l := ([] : List (InR Int))) (l2 := (rs.take q)) (m' := (([] : List (InR Int)) ++ (rs.take q)).length) (i := 1) (H' := fun A c => (_ :: _ :: _ :: _ :: _)) rfl el56 zero85 rfl (by decide) rfl rfl rfl (Rd.cut0 (xs := rs) InR.len (Rd.row (i := 3) rfl) (by omega)) (fun _ => rfl) (by first | (simp; done) | (simp; omega)) (by simp; omega) (by simp; omega) (fun _ _ => rfl) (fun A1 c1 => ?_)
                  refine ⟨(List.Sublist.cons _ (List.Sublist.cons _ (List.Sublist.refl _))), ?_⟩
                  refine DOps.only (listed' := #[true, true, true, true, true, true, true, true, true, true, true, false, true, true, true, false, false]) 10 rfl (by kernel_rfl) rfl rfl ?_
                  refine One.buildSliceG (pv := [(0, _)]) (cs := [_]) (fun l => match l with | [a0_0] => [a0_0] | _ => []) rfl el56 (.cons rfl (.nil)) rfl rfl (by kernel_rfl) rfl rfl (fun b5 => ?_)
                  refine ⟨(List.Sublist.cons _ (List.Sublist.cons _ (List.Sublist.cons _ (List.Sublist.refl _)))), ?_⟩
                  refine DOps.only (listed' := #[true, true, true, true, true, true, true, true, true, true, true, true, true, true, true, false, false]) 11 rfl (by kernel_rfl) rfl rfl ?_
                  refine One.append (enc := InR.enc) (l := (([] : List (InR Int)) ++ (rs.take q))) (l2 := [(⟨(some ⟨b4, 0, none⟩), 2, [(nth bs (k)).lock, (nth bs (k)).slot]⟩ : InR Int)]) (m' := ((([] : List (InR Int)) ++ (rs.take q)) ++ [(⟨(some ⟨b4, 0, none⟩), 2, [(nth bs (k)).lock, (nth bs (k)).slot]⟩ : InR Int)]).length) (i := 2) (H' := fun A c => (_ :: _ :: _ :: _ :: _ :: _)) rfl el56 zero85 rfl (by decide) rfl rfl rfl (Rd.row (i := 0) rfl) (fun _ => rfl) (by first | (simp; done) | (simp; omega)) (by simp; omega) (by simp; omega) (fun _ _ => rfl) (fun A2 c2 => ?_)
                  refine ⟨(List.Sublist.cons _ (List.Sublist.cons _ (List.Sublist.cons _ (List.Sublist.refl _)))), ?_⟩
                  refine DOps.only (listed' := #[true, true, true, true, true, true, true, true, true, true, true, true, true, true, true, true, false]) 15 rfl (by kernel_rfl) rfl rfl ?_
                  refine One.append (enc := InR.enc) (l := ((([] : List (InR Int)) ++ (rs.take q)) ++ [(⟨(some ⟨b4, 0, none⟩), 2, [(nth bs (k)).lock, (nth bs (k)).slot]⟩ : InR Int)])) (l2 := (rs.drop q)) (m' := (((([] : List (InR Int)) ++ (rs.take q)) ++ [(⟨(some ⟨b4, 0, none⟩), 2, [(nth bs (k)).lock, (nth bs (k)).slot]⟩ : InR Int)]) ++ (rs.drop q)).length) (i := 2) (H' := fun A c => (_ :: _ :: _ :: _ :: _ :: _)) rfl el56 zero85 rfl (by decide) rfl rfl rfl (Rd.cutF (xs := rs) InR.len (Rd.row (i := 4) rfl) rfl (by omega)) (fun _ => rfl) (by first | (simp; done) | (simp; omega)) (by simp; omega) (by simp; omega) (fun _ _ => rfl) (fun A3 c3 => ?_)
                  refine ⟨(List.Sublist.cons _ (List.Sublist.cons _ (List.Sublist.cons _ (List.Sublist.refl _)))), ?_⟩
                  refine DOps.take (listed' := #[true, true, true, true, true, true, true, true, true, true, true, true, true, true, true, true, true]) 16 rfl (by kernel_rfl) rfl (List.Sublist.cons _ (List.Sublist.cons _ (List.Sublist.cons _ (List.Sublist.refl _)))) rfl rfl (Yv.assign rfl) ?_
                  refine DOps.done (by kernel_rfl) ?_
                  refine Run.weak (List.Sublist.cons _ (List.Sublist.cons_cons _ (List.Sublist.cons_cons _ (List.Sublist.cons _ (List.Sublist.cons _ (List.Sublist.refl _)))))) ?_
                  refine Run.innerTo (T := 3) (sz := 1) (enc := intC) (H1 := [_]) (A := (some ⟨b4, 0, none⟩)) (l := [(nth bs (k)).lock, (nth bs (k)).slot]) (rs' := (rs.take q ++ [⟨(some ⟨b4, 0, none⟩), 2, [(nth bs (k)).lock, (nth bs (k)).slot]⟩] ++ rs.drop q)) (r := []) rfl perm_ins ?_
                  refine Run.quiet (by intro h; cases h) ?_
                  refine QOps.st rfl rfl (Yv.move rfl).yl ?_
                  refine QOps.st rfl rfl (Yv.succN rfl rfl (by omega)).yl ?_
                  refine QOps.st rfl rfl (Yv.assign rfl).yl ?_
                  refine QOps.nil ?_
                  refine ⟨(k + 1, rs.take q ++ [_] ++ rs.drop q, _, _), ?_, ?_, (SubE.cons rfl (SubE.cons rfl (SubE.cons rfl (SubE.cons rfl (SubE.nil _))))), (List.Sublist.refl _)⟩
                  · exact ⟨by omega, by simp; omega, by rw [voyS_yes hv]; exact ins_map hrs rfl (hq.trans hstop)⟩
                  · first | omega | (dsimp only; omega)
                ·
                  refine One.buildSliceG (pv := [(0, _)]) (cs := [_]) (fun l => match l with | [a0_0] => [a0_0] | _ => []) rfl el56 (.cons rfl (.nil)) rfl rfl (by kernel_rfl) rfl rfl (fun b5 => ?_)
                  refine ⟨(List.Sublist.cons _ (List.Sublist.cons _ (List.Sublist.cons _ (List.Sublist.refl _)))), ?_⟩
                  refine DOps.only (listed' := #[true, true, true, true, true, true, true, true, true, true, true, false, true, true, true, false, false]) 4 rfl (by kernel_rfl) rfl rfl ?_
                  refine One.append (enc := InR.enc) (l := ([] : List (InR Int))) (l2 := (rs.take q)) (m' := (([] : List (InR Int)) ++ (rs.take q)).length) (i := 2) (H' := fun A c => (_ :: _ :: _ :: _ :: _ :: _)) rfl el56 zero85 rfl (by decide) rfl rfl rfl (Rd.cut0 (xs := rs) InR.len (Rd.row (i := 4) rfl) (by omega)) (fun _ => rfl) (by first | (simp; done) | (simp; omega)) (by simp; omega) (by simp; omega) (fun _ _ => rfl) (fun A1 c1 => ?_)
                  refine ⟨(List.Sublist.cons _ (List.Sublist.cons _ (List.Sublist.cons _ (List.Sublist.refl _)))), ?_⟩
                  refine DOps.only (listed' := #[true, true, true, true, true, true, true, true, true, true, true, true, true, true, true, false, false]) 11 rfl (by kernel_rfl) rfl rfl ?_
                  refine One.append (enc := InR.enc) (l := (([] : List (InR Int)) ++ (rs.take q))) (l2 := [(⟨(some ⟨b4, 0, none⟩), 2, [(nth bs (k)).lock, (nth bs (k)).slot]⟩ : InR Int)]) (m' := ((([] : List (InR Int)) ++ (rs.take q)) ++ [(⟨(some ⟨b4, 0, none⟩), 2, [(nth bs (k)).lock, (nth bs (k)).slot]⟩ : InR Int)]).length) (i := 2) (H' := fun A c => (_ :: _ :: _ :: _ :: _ :: _)) rfl el56 zero85 rfl (by decide) rfl rfl rfl (Rd.row (i := 0) rfl) (fun _ => rfl) (by first | (simp; done) | (simp; omega)) (by simp; omega) (by simp; omega) (fun _ _ => rfl) (fun A2 c2 => ?_)
                  refine ⟨(List.Sublist.cons _ (List.Sublist.cons _ (List.Sublist.cons _ (List.Sublist.refl _)))), ?_⟩
                  refine DOps.only (listed' := #[true, true, true, true, true, true, true, true, true, true, true, true, true, true, true, true, false]) 15 rfl (by kernel_rfl) rfl rfl ?_
                  refine One.append (enc := InR.enc) (l := ((([] : List (InR Int)) ++ (rs.take q)) ++ [(⟨(some ⟨b4, 0, none⟩), 2, [(nth bs (k)).lock, (nth bs (k)).slot]⟩ : InR Int)])) (l2 := (rs.drop q)) (m' := (((([] : List (InR Int)) ++ (rs.take q)) ++ [(⟨(some ⟨b4, 0, none⟩), 2, [(nth bs (k)).lock, (nth bs (k)).slot]⟩ : InR Int)]) ++ (rs.drop q)).length) (i := 2) (H' := fun A c => (_ :: _ :: _ :: _ :: _ :: _)) rfl el56 zero85 rfl (by decide) rfl rfl rfl (Rd.cutF (xs := rs) InR.len (Rd.row (i := 4) rfl) rfl (by omega)) (fun _ => rfl) (by first | (simp; done) | (simp; omega)) (by simp; omega) (by simp; omega) (fun _ _ => rfl) (fun A3 c3 => ?_)
                  refine ⟨(List.Sublist.cons _ (List.Sublist.cons _ (List.Sublist.cons _ (List.Sublist.refl _)))), ?_⟩
                  refine DOps.take (listed' := #[true, true, true, true, true, true, true, true, true, true, true, true, true, true, true, true, true]) 16 rfl (by kernel_rfl) rfl (List.Sublist.cons _ (List.Sublist.cons _ (List.Sublist.cons _ (List.Sublist.refl _)))) rfl rfl (Yv.assign rfl) ?_
                  refine DOps.done (by kernel_rfl) ?_
                  refine Run.weak (List.Sublist.cons _ (List.Sublist.cons_cons _ (List.Sublist.cons_cons _ (List.Sublist.cons _ (List.Sublist.cons _ (List.Sublist.refl _)))))) ?_
                  refine Run.innerTo (T := 3) (sz := 1) (enc := intC) (H1 := [_]) (A := (some ⟨b4, 0, none⟩)) (l := [(nth bs (k)).lock, (nth bs (k)).slot]) (rs' := (rs.take q ++ [⟨(some ⟨b4, 0, none⟩), 2, [(nth bs (k)).lock, (nth bs (k)).slot]⟩] ++ rs.drop q)) (r := []) rfl perm_ins ?_
                  refine Run.quiet (by intro h; cases h) ?_
                  refine QOps.st rfl rfl (Yv.move rfl).yl ?_
                  refine QOps.st rfl rfl (Yv.succN rfl rfl (by omega)).yl ?_
                  refine QOps.st rfl rfl (Yv.assign rfl).yl ?_
                  refine QOps.nil ?_
                  refine ⟨(k + 1, rs.take q ++ [_] ++ rs.drop q, _, _), ?_, ?_, (SubE.cons rfl (SubE.cons rfl (SubE.cons rfl (SubE.cons rfl (SubE.nil _))))), (List.Sublist.refl _)⟩
                  · exact ⟨by omega, by simp; omega, by rw [voyS_yes hv]; exact ins_map hrs rfl (hq.trans hstop)⟩
                  · first | omega | (dsimp only; omega)
            ·
              refine One.buildSliceG (pv := [(0, _), (1, _)]) (cs := [_, _]) (fun l => match l with | [a0_0, a1_0] => [a0_0, a1_0] | _ => []) rfl el85 (.cons rfl (.cons rfl (.nil))) rfl rfl (by kernel_rfl) rfl rfl (fun b3 => ?_)
              refine ⟨(List.Sublist.cons _ (List.Sublist.refl _)), ?_⟩
              refine DOps.fork2 (l1 := #[true, true, true, true, false, true, true, true, true, true, false, false, true, true, true, false, false]) (l2 := #[false, true, true, true, false, true, true, true, true, true, true, false, true, true, true, false, false]) 0 10 rfl rfl (by kernel_rfl) rfl rfl rfl rfl ?_ ?_
              ·
                refine One.buildSliceG (pv := []) (cs := []) (fun _ => []) rfl el56 .nil rfl rfl (by kernel_rfl) rfl rfl (fun b4 => ?_)
                refine ⟨(List.Sublist.cons _ (List.Sublist.cons _ (List.Sublist.refl _))), ?_⟩
                refine DOps.fork2 (l1 := #[true, true, true, true, true, true, true, true, true, true, false, false, true, true, true, false, false]) (l2 := #[true, true, true, true, false, true, true, true, true, true, true, false, true, true, true, false, false]) 4 10 rfl rfl (by kernel_rfl) rfl rfl rfl rfl ?_ ?_
                ·
                  refine One.append (enc := InR.enc) (l := ([] : List (InR Int))) (l2 := (rs.take q)) (m' := (([] : List (InR Int)) ++ (rs.take q)).length) (i := 0) (H' := fun A c => (_ :: _ :: _ :: _ :: _)) rfl el56 zero85 rfl (by decide) rfl rfl rfl (Rd.cut0 (xs := rs) InR.len (Rd.row (i := 3) rfl) (by omega)) (fun _ => rfl) (by first | (simp; done) | (simp; omega)) (by simp; omega) (by simp; omega) (fun _ _ => rfl) (fun A1 c1 => ?_)
                  refine ⟨(List.Sublist.cons _ (List.Sublist.cons _ (List.Sublist.refl _))), ?_⟩
                  refine DOps.only (listed' := #[true, true, true, true, true, true, true, true, true, true, true, false, true, true, true, false, false]) 10 rfl (by kernel_rfl) rfl rfl ?_
                  refine One.buildSliceG (pv := [(0, _)]) (cs := [_]) (fun l => match l with | [a0_0] => [a0_0] | _ => []) rfl el56 (.cons rfl (.nil)) rfl rfl (by kernel_rfl) rfl rfl (fun b5 => ?_)
                  refine ⟨(List.Sublist.cons _ (List.Sublist.cons _ (List.Sublist.cons _ (List.Sublist.refl _)))), ?_⟩
                  refine DOps.only (listed' := #[true, true, true, true, true, true, true, true, true, true, true, true, true, true, true, false, false]) 11 rfl (by kernel_rfl) rfl rfl ?_
                  refine One.append (enc := InR.enc) (l := (([] : List (InR Int)) ++ (rs.take q))) (l2 := [(⟨(some ⟨b3, 0, none⟩), 2, [(nth bs (k)).lock, (nth bs (k)).slot]⟩ : InR Int)]) (m' := ((([] : List (InR Int)) ++ (rs.take q)) ++ [(⟨(some ⟨b3, 0, none⟩), 2, [(nth bs (k)).lock, (nth bs (k)).slot]⟩ : InR Int)]).length) (i := 1) (H' := fun A c => (_ :: _ :: _ :: _ :: _ :: _)) rfl el56 zero85 rfl (by decide) rfl rfl rfl (Rd.row (i := 0) rfl) (fun _ => rfl) (by first | (simp; done) | (simp; omega)) (by simp; omega) (by simp; omega) (fun _ _ => rfl) (fun A2 c2 => ?_)
                  refine ⟨(List.Sublist.cons _ (List.Sublist.cons _ (List.Sublist.cons _ (List.Sublist.refl _)))), ?_⟩
                  refine DOps.only (listed' := #[true, true, true, true, true, true, true, true, true, true, true, true, true, true, true, true, false]) 15 rfl (by kernel_rfl) rfl rfl ?_
                  refine One.append (enc := InR.enc) (l := ((([] : List (InR Int)) ++ (rs.take q)) ++ [(⟨(some ⟨b3, 0, none⟩), 2, [(nth bs (k)).lock, (nth bs (k)).slot]⟩ : InR Int)])) (l2 := (rs.drop q)) (m' := (((([] : List (InR Int)) ++ (rs.take q)) ++ [(⟨(some ⟨b3, 0, none⟩), 2, [(nth bs (k)).lock, (nth bs (k)).slot]⟩ : InR Int)]) ++ (rs.drop q)).length) (i := 1) (H' := fun A c => (_ :: _ :: _ :: _ :: _ :: _)) rfl el56 zero85 rfl (by decide) rfl rfl rfl (Rd.cutF (xs := rs) InR.len (Rd.row (i := 4) rfl) rfl (by omega)) (fun _ => rfl) (by first | (simp; done) | (simp; omega)) (by simp; omega) (by simp; omega) (fun _ _ => rfl) (fun A3 c3 => ?_)
                  refine ⟨(List.Sublist.cons _ (List.Sublist.cons _ (List.Sublist.cons _ (List.Sublist.refl _)))), ?_⟩
                  refine DOps.take (listed' := #[true, true, true, true, true, true, true, true, true, true, true, true, true, true, true, true, true]) 16 rfl (by kernel_rfl) rfl (List.Sublist.cons _ (List.Sublist.cons _ (List.Sublist.cons _ (List.Sublist.refl _)))) rfl rfl (Yv.assign rfl) ?_
                  refine DOps.done (by kernel_rfl) ?_
                  refine Run.weak (List.Sublist.cons _ (List.Sublist.cons_cons _ (List.Sublist.cons_cons _ (List.Sublist.cons _ (List.Sublist.cons _ (List.Sublist.refl _)))))) ?_
                  refine Run.perm (List.Perm.swap _ _ _) ?_
                  refine Run.innerTo (T := 3) (sz := 1) (enc := intC) (H1 := [_]) (A := (some ⟨b3, 0, none⟩)) (l := [(nth bs (k)).lock, (nth bs (k)).slot]) (rs' := (rs.take q ++ [⟨(some ⟨b3, 0, none⟩), 2, [(nth bs (k)).lock, (nth bs (k)).slot]⟩] ++ rs.drop q)) (r := []) rfl perm_ins ?_
                  refine Run.quiet (by intro h; cases h) ?_
                  refine QOps.st rfl rfl (Yv.move rfl).yl ?_
                  refine QOps.st rfl rfl (Yv.succN rfl rfl (by omega)).yl ?_
                  refine QOps.st rfl rfl (Yv.assign rfl).yl ?_
                  refine QOps.nil ?_
                  refine ⟨(k + 1, rs.take q ++ [_] ++ rs.drop q, _, _), ?_, ?_, (SubE.cons rfl (SubE.cons rfl (SubE.cons rfl (SubE.cons rfl (SubE.nil _))))), (List.Sublist.refl _)⟩
                  · exact ⟨by omega, by simp; omega, by rw [voyS_yes hv]; exact ins_map hrs rfl (hq.trans hstop)⟩
                  · first | omega | (dsimp only; omega)
                ·
                  refine One.buildSliceG (pv := [(0, _)]) (cs := [_]) (fun l => match l with | [a0_0] => [a0_0] | _ => []) rfl el56 (.cons rfl (.nil)) rfl rfl (by kernel_rfl) rfl rfl (fun b5 => ?_)
                  refine ⟨(List.Sublist.cons _ (List.Sublist.cons _ (List.Sublist.cons _ (List.Sublist.refl _)))), ?_⟩
                  refine DOps.only (listed' := #[true, true, true, true, true, true, true, true, true, true, true, false, true, true, true, false, false]) 4 rfl (by kernel_rfl) rfl rfl ?_
                  refine One.append (enc := InR.enc) (l := ([] : List (InR Int))) (l2 := (rs.take q)) (m' := (([] : List (InR Int)) ++ (rs.take q)).length) (i := 1) (H' := fun A c => (_ :: _ :: _ :: _ :: _ :: _)) rfl el56 zero85 rfl (by decide) rfl rfl rfl (Rd.cut0 (xs := rs) InR.len (Rd.row (i := 4) rfl) (by omega)) (fun _ => rfl) (by first | (simp; done) | (simp; omega)) (by simp; omega) (by simp; omega) (fun _ _ => rfl) (fun A1 c1 => ?_)
                  refine ⟨(List.Sublist.cons _ (List.Sublist.cons _ (List.Sublist.cons _ (List.Sublist.refl _)))), ?_⟩
                  refine DOps.only (listed' := #[true, true, true, true, true, true, true, true, true, true, true, true, true, true, true, false, false]) 11 rfl (by kernel_rfl) rfl rfl ?_
                  refine One.append (enc := InR.enc) (l := (([] : List (InR Int)) ++ (rs.take q))) (l2 := [(⟨(some ⟨b3, 0, none⟩), 2, [(nth bs (k)).lock, (nth bs (k)).slot]⟩ : InR Int)]) (m' := ((([] : List (InR Int)) ++ (rs.take q)) ++ [(⟨(some ⟨b3, 0, none⟩), 2, [(nth bs (k)).lock, (nth bs (k)).slot]⟩ : InR Int)]).length) (i := 1) (H' := fun A c => (_ :: _ :: _ :: _ :: _ :: _)) rfl el56 zero85 rfl (by decide) rfl rfl rfl (Rd.row (i := 0) rfl) (fun _ => rfl) (by first | (simp; done) | (simp; omega)) (by simp; omega) (by simp; omega) (fun _ _ => rfl) (fun A2 c2 => ?_)
                  refine ⟨(List.Sublist.cons _ (List.Sublist.cons _ (List.Sublist.cons _ (List.Sublist.refl _)))), ?_⟩
                  refine DOps.only (listed' := #[true, true, true, true, true, true, true, true, true, true, true, true, true, true, true, true, false]) 15 rfl (by kernel_rfl) rfl rfl ?_
                  refine One.append (enc := InR.enc) (l := ((([] : List (InR Int)) ++ (rs.take q)) ++ [(⟨(some ⟨b3, 0, none⟩), 2, [(nth bs (k)).lock, (nth bs (k)).slot]⟩ : InR Int)])) (l2 := (rs.drop q)) (m' := (((([] : List (InR Int)) ++ (rs.take q)) ++ [(⟨(some ⟨b3, 0, none⟩), 2, [(nth bs (k)).lock, (nth bs (k)).slot]⟩ : InR Int)]) ++ (rs.drop q)).length) (i := 1) (H' := fun A c => (_ :: _ :: _ :: _ :: _ :: _)) rfl el56 zero85 rfl (by decide) rfl rfl rfl (Rd.cutF (xs := rs) InR.len (Rd.row (i := 4) rfl) rfl (by omega)) (fun _ => rfl) (by first | (simp; done) | (simp; omega)) (by simp; omega) (by simp; omega) (fun _ _ => rfl) (fun A3 c3 => ?_)
                  refine ⟨(List.Sublist.cons _ (List.Sublist.cons _ (List.Sublist.cons _ (List.Sublist.refl _)))), ?_⟩
                  refine DOps.take (listed' := #[true, true, true, true, true, true, true, true, true, true, true, true, true, true, true, true, true]) 16 rfl (by kernel_rfl) rfl (List.Sublist.cons _ (List.Sublist.cons _ (List.Sublist.cons _ (List.Sublist.refl _)))) rfl rfl (Yv.assign rfl) ?_
                  refine DOps.done (by kernel_rfl) ?_
                  refine Run.weak (List.Sublist.cons _ (List.Sublist.cons_cons _ (List.Sublist.cons_cons _ (List.Sublist.cons _ (List.Sublist.cons _ (List.Sublist.refl _)))))) ?_
                  refine Run.perm (List.Perm.swap _ _ _) ?_
                  refine Run.innerTo (T := 3) (sz := 1) (enc := intC) (H1 := [_]) (A := (some ⟨b3, 0, none⟩)) (l := [(nth bs (k)).lock, (nth bs (k)).slot]) (rs' := (rs.take q ++ [⟨(some ⟨b3, 0, none⟩), 2, [(nth bs (k)).lock, (nth bs (k)).slot]⟩] ++ rs.drop q)) (r := []) rfl perm_ins ?_
                  refine Run.quiet (by intro h; cases h) ?_
                  refine QOps.st rfl rfl (Yv.move rfl).yl ?_
                  refine QOps.st rfl rfl (Yv.succN rfl rfl (by omega)).yl ?_
                  refine QOps.st rfl rfl (Yv.assign rfl).yl ?_
                  refine QOps.nil ?_
                  refine ⟨(k + 1, rs.take q ++ [_] ++ rs.drop q, _, _), ?_, ?_, (SubE.cons rfl (SubE.cons rfl (SubE.cons rfl (SubE.cons rfl (SubE.nil _))))), (List.Sublist.refl _)⟩
                  · exact ⟨by omega, by simp; omega, by rw [voyS_yes hv]; exact ins_map hrs rfl (hq.trans hstop)⟩
                  · first | omega | (dsimp only; omega)
              ·
                refine One.buildSliceG (pv := [(0, _)]) (cs := [_]) (fun l => match l with | [a0_0] => [a0_0] | _ => []) rfl el56 (.cons rfl (.nil)) rfl rfl (by kernel_rfl) rfl rfl (fun b4 => ?_)
                refine ⟨(List.Sublist.cons _ (List.Sublist.cons _ (List.Sublist.refl _))), ?_⟩
                refine DOps.only (listed' := #[true, true, true, true, false, true, true, true, true, true, true, false, true, true, true, false, false]) 0 rfl (by kernel_rfl) rfl rfl ?_
                refine One.buildSliceG (pv := []) (cs := []) (fun _ => []) rfl el56 .nil rfl rfl (by kernel_rfl) rfl rfl (fun b5 => ?_)
                refine ⟨(List.Sublist.cons _ (List.Sublist.cons _ (List.Sublist.cons _ (List.Sublist.refl _)))), ?_⟩
                refine DOps.only (listed' := #[true, true, true, true, true, true, true, true, true, true, true, false, true, true, true, false, false]) 4 rfl (by kernel_rfl) rfl rfl ?_
                refine One.append (enc := InR.enc) (l := ([] : List (InR Int))) (l2 := (rs.take q)) (m' := (([] : List (InR Int)) ++ (rs.take q)).length) (i := 0) (H' := fun A c => (_ :: _ :: _ :: _ :: _ :: _)) rfl el56 zero85 rfl (by decide) rfl rfl rfl (Rd.cut0 (xs := rs) InR.len (Rd.row (i := 4) rfl) (by omega)) (fun _ => rfl) (by first | (simp; done) | (simp; omega)) (by simp; omega) (by simp; omega) (fun _ _ => rfl) (fun A1 c1 => ?_)
                refine ⟨(List.Sublist.cons _ (List.Sublist.cons _ (List.Sublist.cons _ (List.Sublist.refl _)))), ?_⟩
                refine DOps.only (listed' := #[true, true, true, true, true, true, true, true, true, true, true, true, true, true, true, false, false]) 11 rfl (by kernel_rfl) rfl rfl ?_
                refine One.append (enc := InR.enc) (l := (([] : List (InR Int)) ++ (rs.take q))) (l2 := [(⟨(some ⟨b3, 0, none⟩), 2, [(nth bs (k)).lock, (nth bs (k)).slot]⟩ : InR Int)]) (m' := ((([] : List (InR Int)) ++ (rs.take q)) ++ [(⟨(some ⟨b3, 0, none⟩), 2, [(nth bs (k)).lock, (nth bs (k)).slot]⟩ : InR Int)]).length) (i := 0) (H' := fun A c => (_ :: _ :: _ :: _ :: _ :: _)) rfl el56 zero85 rfl (by decide) rfl rfl rfl (Rd.row (i := 1) rfl) (fun _ => rfl) (by first | (simp; done) | (simp; omega)) (by simp; omega) (by simp; omega) (fun _ _ => rfl) (fun A2 c2 => ?_)
                refine ⟨(List.Sublist.cons _ (List.Sublist.cons _ (List.Sublist.cons _ (List.Sublist.refl _)))), ?_⟩
                refine DOps.only (listed' := #[true, true, true, true, true, true, true, true, true, true, true, true, true, true, true, true, false]) 15 rfl (by kernel_rfl) rfl rfl ?_
                refine One.append (enc := InR.enc) (l := ((([] : List (InR Int)) ++ (rs.take q)) ++ [(⟨(some ⟨b3, 0, none⟩), 2, [(nth bs (k)).lock, (nth bs (k)).slot]⟩ : InR Int)])) (l2 := (rs.drop q)) (m' := (((([] : List (InR Int)) ++ (rs.take q)) ++ [(⟨(some ⟨b3, 0, none⟩), 2, [(nth bs (k)).lock, (nth bs (k)).slot]⟩ : InR Int)]) ++ (rs.drop q)).length) (i := 0) (H' := fun A c => (_ :: _ :: _ :: _ :: _ :: _)) rfl el56 zero85 rfl (by decide) rfl rfl rfl (Rd.cutF (xs := rs) InR.len (Rd.row (i := 4) rfl) rfl (by omega)) (fun _ => rfl) (by first | (simp; done) | (simp; omega)) (by simp; omega) (by simp; omega) (fun _ _ => rfl) (fun A3 c3 => ?_)
                refine ⟨(List.Sublist.cons _ (List.Sublist.cons _ (List.Sublist.cons _ (List.Sublist.refl _)))), ?_⟩
                refine DOps.take (listed' := #[true, true, true, true, true, true, true, true, true, true, true, true, true, true, true, true, true]) 16 rfl (by kernel_rfl) rfl (List.Sublist.cons _ (List.Sublist.cons _ (List.Sublist.cons _ (List.Sublist.refl _)))) rfl rfl (Yv.assign rfl) ?_
                refine DOps.done (by kernel_rfl) ?_
                refine Run.weak (List.Sublist.cons_cons _ (List.Sublist.cons _ (List.Sublist.cons_cons _ (List.Sublist.cons _ (List.Sublist.cons _ (List.Sublist.refl _)))))) ?_
                refine Run.perm (List.Perm.swap _ _ _) ?_
                refine Run.innerTo (T := 3) (sz := 1) (enc := intC) (H1 := [_]) (A := (some ⟨b3, 0, none⟩)) (l := [(nth bs (k)).lock, (nth bs (k)).slot]) (rs' := (rs.take q ++ [⟨(some ⟨b3, 0, none⟩), 2, [(nth bs (k)).lock, (nth bs (k)).slot]⟩] ++ rs.drop q)) (r := []) rfl perm_ins ?_
                refine Run.quiet (by intro h; cases h) ?_
                refine QOps.st rfl rfl (Yv.move rfl).yl ?_
                refine QOps.st rfl rfl (Yv.succN rfl rfl (by omega)).yl ?_
                refine QOps.st rfl rfl (Yv.assign rfl).yl ?_
                refine QOps.nil ?_
                refine ⟨(k + 1, rs.take q ++ [_] ++ rs.drop q, _, _), ?_, ?_, (SubE.cons rfl (SubE.cons rfl (SubE.cons rfl (SubE.cons rfl (SubE.nil _))))), (List.Sublist.refl _)⟩
                · exact ⟨by omega, by simp; omega, by rw [voyS_yes hv]; exact ins_map hrs rfl (hq.trans hstop)⟩
                · first | omega | (dsimp only; omega)
    · try replace hc1 := of_decide_eq_false hc1
      refine Run.exit ?_
      refine Run.seq ?_
      refine Run.quiet (by intro h; cases h) ?_
      refine QOps.st rfl rfl (Yv.move rfl).yl ?_
      refine QOps.st rfl rfl (Yv.assign rfl).yl ?_
      refine QOps.nil ?_
      refine Run.ret ?_
      obtain rfl : k = bs.length := by omega
      refine retQ.of (.inr rfl) rfl (.tmp rfl .nil) (fun w' hw' => ?_)
      skip
      exact retTab_own2 rfl hw' hrs rfl (List.Sublist.refl _)
theorem sVoyageSlots_spec {w : World} {A : Option Addr} {c : Nat} {room v : Int} {bs : List Booking} (hs : Sl w 4 A bs.length c (bs.flatMap Booking.enc)) (hl10 : bs.length ≤ 1048576) :
    Calls Try.prog 41 #[.int .i64 room, .slice A bs.length c, .int .i64 v] w (RetTab w 85 3 1 intC (voyL room bs v) (fun x => .tuple #[x, .bool (voyOk room bs v)])) := by
  have hmx := Sl.lenle hs
  refine calls_of_run (vs := [_, _, _]) (L := [(0, _), (1, _), (2, _)]) (n := 21) (F := []) (H := []) Try.func41 rfl rfl rfl rfl (HOk.start _) ?_
  refine Run.seq ?_
  refine Run.quiet (by intro h; cases h) ?_
  refine QOps.st rfl rfl (Yv.assign rfl).yl ?_
  refine QOps.st rfl rfl (Yv.assign rfl).yl ?_
  refine QOps.nil ?_
  refine Run.seq ?_
  refine Run.seq ?_
  refine Run.quiet (by intro h; cases h) ?_
  refine QOps.st rfl rfl (Yv.move rfl).yl ?_
  refine QOps.st rfl rfl (Yv.move rfl).yl ?_
  refine QOps.st rfl rfl (Yl.call callable50 (.cons rfl (.cons rfl (.nil))) (fun w' hw' => l18Good_spec ((Rd.arg hs) w' hw'))) ?_
  refine QOps.st rfl rfl (Yv.not rfl).yl ?_
  refine QOps.st rfl rfl (Yv.move rfl).yl ?_
  refine' QOps.or [_, _, _] _ (.tmp 15) rfl rfl rfl rfl rfl rfl (fun hg1 => ?_) ?_
  rotate_left
  · try replace hg1 := of_decide_eq_false hg1
    refine QOps.st rfl rfl (Yv.move rfl).yl ?_
    refine QOps.st rfl rfl (Yl.call callable66 (.cons rfl (.cons rfl (.cons rfl (.nil)))) (fun w' hw' => l1In_spec)) ?_
    refine QOps.st rfl rfl (Yv.not rfl).yl ?_
    exact QOps.nil rfl
  refine QOps.nil ?_
  refine Run.cond rfl (fun hc1 => ?_) (fun hc1 => ?_)
  · try replace hc1 := of_decide_eq_true hc1
    have hn : voyOk room bs v = false := by unfold voyOk; revert hc1; cases areBookings room bs <;> cases inB v 1 99 <;> simp
    refine Run.seq ?_
    refine Run.ops ?_
    refine SOps.one rfl (One.buildSliceG (pv := []) (cs := []) (fun _ => []) rfl el56 .nil rfl rfl (by kernel_rfl) rfl rfl (fun b1 => ?_))
    refine SOps.st rfl rfl (Yv.assign rfl).yl ?_
    refine SOps.st rfl rfl (Yv.assign rfl).yl ?_
    refine SOps.nil ?_
    refine Run.ret ?_
    refine retQ.of (.inr rfl) rfl (.tmp rfl (.tmp rfl .nil)) (fun w' hw' => ?_)
    unfold voyL; rw [if_neg (by rw [hn]; simp), hn]
    exact retTab_own2 (rs := []) rfl hw' rfl rfl (List.Sublist.refl _)
  · try replace hc1 := of_decide_eq_false hc1
    have hy : voyOk room bs v = true := by unfold voyOk; revert hc1; cases areBookings room bs <;> cases inB v 1 99 <;> simp
    refine Run.skip ?_
    refine Run.seq ?_
    refine Run.ops ?_
    refine SOps.st rfl rfl (Yv.move rfl).yl ?_
    refine SOps.st rfl rfl (Yv.move rfl).yl ?_
    refine SOps.one rfl (One.callTabT (H1 := []) (rs0 := ([] : List (InR Int))) rfl callable73 (.cons rfl (.cons rfl (.nil))) (fun w' hw' => l18Slots_spec ((Rd.arg hs) w' hw') (by omega)) ?_)
    rintro At1 ct1 rs1 hrs1
    refine SOps.st rfl rfl (Yv.assign rfl).yl ?_
    refine SOps.st rfl rfl (Yv.assign rfl).yl ?_
    refine SOps.nil ?_
    refine Run.ret ?_
    refine retQ.of (.inr rfl) rfl (.tmp rfl (.tmp rfl .nil)) (fun w' hw' => ?_)
    unfold voyL; rw [if_pos hy, hy]
    exact retTab_own2 rfl hw' hrs1 rfl (List.Sublist.refl _)
end Go.Proofs.Ythgekachgpcjbaa
