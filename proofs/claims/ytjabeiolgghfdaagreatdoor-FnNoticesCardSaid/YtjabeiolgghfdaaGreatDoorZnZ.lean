/- The law FnNotices, walked. Conditions: none. -/
import Derived.Test.YtjabeiolgghfdaaGreatDoorZnY
namespace Go.Proofs.YtjabeiolgghfdaaGreatDoor
open Go.RowKit
set_option maxRecDepth 100000
theorem parse_text {n : Notice} (h : (textOf n).2 = true) : parseS (textOf n).1 = (n, true) := by
  unfold textOf at h ⊢
  split at h
  · rename_i h1
    rw [if_pos h1]
    exact parse_back h1
  · cases h
theorem meets_sym {n : Notice} {a b d : Int} : meets n b a d = meets n a b d := by unfold meets; rw [Int.min_comm, Int.max_comm]
theorem asked_sym {ns : List Notice} {a b d : Int} : asked ns b a d = asked ns a b d := by
  unfold asked
  cases areNotices ns <;> cases inB a 0 600 <;> cases inB b 0 600 <;> rfl
theorem metTo_is {ns : List Notice} {a b d : Int} : ∀ {k : Nat}, k ≤ ns.length → metTo ns a b d k = ((ns.take k).filter (fun n => meets n a b d)).map Notice.id
  | 0, _ => by simp [metTo]
  | k + 1, h => by
    rw [metTo, metTo_is (by omega), keep_succ (by omega)]
    by_cases h1 : meets (nth ns k) a b d = true
    · rw [if_pos h1, if_pos h1]; simp
    · rw [if_neg h1, if_neg h1]; simp
theorem met_sym {ns : List Notice} {a b d : Int} : metOf ns b a d = metOf ns a b d := by
  unfold metOf
  rw [asked_sym, metTo_is (Nat.le_refl _), metTo_is (Nat.le_refl _)]
  simp only [meets_sym]
/-- Notices that are as they should be, in other words. -/
theorem are_iff {ns : List Notice} : areNotices ns = true ↔ (∀ n ∈ ns, noticeOk n = true) ∧ ns.Pairwise (fun x y => x.id < y.id) ∧ ns.length ≤ 10 := by
  have e : ∀ (i : Nat) (h : i < ns.length), nth ns i = ns[i] := fun i h => by rw [nth, List.getD_eq_getElem?_getD, List.getElem?_eq_getElem h]; rfl
  simp only [areNotices, Bool.and_eq_true, allTo_iff, decide_eq_true_eq]
  constructor
  · rintro ⟨h1, h2⟩
    have h3 : ∀ k, k < ns.length → noticeOk (nth ns k) = true ∧ (0 < k → (nth ns (k - 1)).id < (nth ns k).id) := fun k hk => by
      have h4 := h1 k hk
      simp only [badNotice, Bool.not_eq_true', Bool.or_eq_false_iff, Bool.and_eq_false_iff, Bool.not_eq_false', decide_eq_false_iff_not] at h4
      exact ⟨h4.1, fun h0 => by omega⟩
    have up : ∀ i k, i < k → k < ns.length → (nth ns i).id < (nth ns k).id := fun i k hik hk => by
      induction k with
      | zero => omega
      | succ k ih =>
        have h5 := (h3 (k + 1) hk).2 (by omega)
        rw [show k + 1 - 1 = k by omega] at h5
        rcases Nat.lt_or_ge i k with h6 | h6
        · have := ih h6 (by omega)
          omega
        · obtain rfl : i = k := by omega
          exact h5
    refine ⟨fun n hn => ?_, List.pairwise_iff_getElem.2 fun i k hi hk hik => ?_, by omega⟩
    · obtain ⟨i, hi, rfl⟩ := List.getElem_of_mem hn
      rw [← e i hi]
      exact (h3 i hi).1
    · rw [← e i hi, ← e k hk]
      exact up i k hik hk
  · rintro ⟨h1, h2, h3⟩
    refine ⟨fun k hk => ?_, by omega⟩
    have h4 : noticeOk (nth ns k) = true := by rw [e k hk]; exact h1 _ (List.getElem_mem hk)
    simp only [badNotice, h4, Bool.not_true, Bool.false_or, Bool.not_eq_true', Bool.and_eq_false_iff, decide_eq_false_iff_not]
    rcases Nat.lt_or_ge 0 k with h0 | h0
    · right
      have h5 := List.pairwise_iff_getElem.1 h2 (k - 1) k (by omega) hk (by omega)
      rw [← e (k - 1) (by omega), ← e k hk] at h5
      omega
    · left
      omega
/-- What a trip meets is there still when those that have ended are struck out. -/
structure Struck (ns : List Notice) (a b d : Int) : Prop where
  ok : endOk ns d = true
  asked_ : asked (endL ns d) a b d = true
  met : metOf (endL ns d) a b d = metOf ns a b d
  are : areNotices ns = true
theorem struck {ns : List Notice} {a b d : Int} (h : asked ns a b d = true) : Struck ns a b d := by
  have h0 := h
  unfold asked at h0
  simp only [Bool.and_eq_true] at h0
  obtain ⟨⟨⟨h1, h2⟩, h3⟩, h4⟩ := h0
  have hok : endOk ns d = true := by unfold endOk; rw [h1, h4]; rfl
  have hl : endL ns d = ns.filter (fun x => !endedBy d x) := by unfold endL; rw [if_pos hok]
  have har : areNotices (endL ns d) = true := by
    rw [hl]
    obtain ⟨g1, g2, g3⟩ := are_iff.1 h1
    exact are_iff.2 ⟨fun n hn => g1 n (List.mem_filter.1 hn).1, g2.filter _, by have := List.length_filter_le (fun x => !endedBy d x) ns; omega⟩
  have hask : asked (endL ns d) a b d = true := by unfold asked; rw [har, h2, h3, h4]; rfl
  refine ⟨hok, hask, ?_, h1⟩
  unfold metOf
  rw [if_pos hask, if_pos h, metTo_is (Nat.le_refl _), metTo_is (Nat.le_refl _), List.take_length, List.take_length, hl, List.filter_filter]
  congr 1
  refine List.filter_congr fun x _ => ?_
  cases hm : meets x a b d with
  | false => rfl
  | true =>
    simp only [meets, Bool.and_eq_true, inB_iff] at hm
    unfold endedBy
    rw [decide_eq_false (by omega)]
    rfl
theorem rIntsE_spec {w : World} {A A2 : Option Addr} {c c2 : Nat} {l l2 : List Int} (h : l2 = l) (hs : Sl w 1 A l.length c (l.flatMap intC)) (hs2 : Sl w 1 A2 l2.length c2 (l2.flatMap intC)) :
    Calls Tryz.prog 14 #[.slice A l.length c, .slice A2 l2.length c2] w (RetB w (.bool true)) := by
  subst h
  exact rInts_spec hs hs2
theorem FnNotices_spec {w : World} {A : Option Addr} {c : Nat} {xs : List UInt8} (hd : DoorW w) (hs : Sl w 1 A xs.length c (xs.flatMap byteC)) (_hb : 1 * xs.length ≤ 281474976710656) : Calls Tryz.prog 3 #[.slice A xs.length c] w (RetB w (.bool true)) := by
  have htab := hd.tab
  refine calls_of_run (vs := [_]) (L := [(0, _)]) (n := 199) (F := []) (H := []) Tryz.func3 rfl rfl rfl rfl (HOk.start _) ?_
  refine Run.seq ?_
  refine Run.quiet (by intro h; cases h) ?_
  refine QOps.st rfl rfl (Yv.assign rfl).yl ?_
  refine QOps.nil ?_
  refine Run.seq ?_
  refine Run.seq ?_
  refine Run.quiet (by intro h; cases h) ?_
  refine QOps.st rfl rfl (Yv.move rfl).yl ?_
  refine QOps.st rfl rfl (Yl.call callable4 (.cons rfl (.nil)) (fun w' hw' => rBig_spec)) ?_
  refine QOps.nil ?_
  refine Run.cond rfl (fun hc1 => ?_) (fun hc1 => ?_)
  · try replace hc1 := of_decide_eq_true hc1
    refine Run.seq ?_
    refine Run.quiet (by intro h; cases h) ?_
    refine QOps.st rfl rfl (Yv.assign rfl).yl ?_
    refine QOps.nil ?_
    refine Run.ret ?_
    refine retQ.of (.inr rfl) rfl (.tmp rfl .nil) (fun w' hw' => ?_)
    refine ⟨?_, hw'.bel.below⟩
    exact rfl
  · try replace hc1 := of_decide_eq_false hc1
    refine Run.skip ?_
    refine Run.seq ?_
    refine Run.ops ?_
    refine SOps.st rfl rfl (Yv.move rfl).yl ?_
    refine SOps.one rfl (One.callE rfl callable5 (.cons rfl (.nil)) (fun w' hw' => DrawNoticeText_spec ((Rd.arg hs) w' hw')) (fun x1 _ => ?_))
    refine SOps.one rfl (One.alloc rfl zero25 (fun b1 => ?_))
    refine SOps.one rfl (One.store (i := 0) (off := 0) (vs := [_, _, _, _, _, _, _]) (cs' := [_, _, _, _, _, _, _]) (H' := [_]) lay25 rfl rfl rfl rfl rfl rfl rfl rfl rfl rfl ?_)
    refine SOps.nil ?_
    have htx := text_len (n := x1)
    refine Run.seq ?_
    refine Run.quiet (by intro h; cases h) ?_
    refine QOps.st rfl rfl (Yv.loadBs (i := 0) lay25 rfl rfl rfl rfl).yl ?_
    refine QOps.st rfl rfl (Yl.call callable6 (.cons rfl (.nil)) (fun w' hw' => NoticeText_spec (tab_at htab hw'))) ?_
    refine QOps.st rfl rfl (Yv.move rfl).yl ?_
    refine QOps.st rfl rfl (Yv.extract rfl rfl).yl ?_
    refine QOps.st rfl rfl (Yv.extract rfl rfl).yl ?_
    refine QOps.st rfl rfl (Yv.assign rfl).yl ?_
    refine QOps.st rfl rfl (Yv.assign rfl).yl ?_
    refine QOps.nil ?_
    refine Run.seq ?_
    refine Run.seq ?_
    refine Run.quiet (by intro h; cases h) ?_
    refine QOps.st rfl rfl (Yv.loadBs (i := 0) lay25 rfl rfl rfl rfl).yl ?_
    refine QOps.st rfl rfl (Yl.call callable7 (.cons rfl (.nil)) (fun w' hw' => sNoticeText_spec)) ?_
    refine QOps.st rfl rfl (Yv.move rfl).yl ?_
    refine QOps.st rfl rfl (Yv.extract rfl rfl).yl ?_
    refine QOps.st rfl rfl (Yv.extract rfl rfl).yl ?_
    refine QOps.st rfl rfl (Yv.assign rfl).yl ?_
    refine QOps.st rfl rfl (Yv.assign rfl).yl ?_
    refine QOps.nil ?_
    refine Run.seq ?_
    refine Run.quiet (by intro h; cases h) ?_
    refine QOps.st rfl rfl (Yv.move rfl).yl ?_
    refine QOps.st rfl rfl (Yv.move rfl).yl ?_
    refine QOps.st rfl rfl (Yv.strNe (a := (textOf x1).1) (b := (textOf x1).1) rfl rfl).yl ?_
    refine QOps.st rfl rfl (Yv.move rfl).yl ?_
    refine' QOps.or [_, _, _] _ (.tmp 55) rfl rfl rfl rfl rfl rfl (fun hg1 => ?_) ?_
    rotate_left
    · try replace hg1 := of_decide_eq_false hg1
      refine QOps.st rfl rfl (Yv.move rfl).yl ?_
      refine QOps.st rfl rfl (Yv.move rfl).yl ?_
      refine QOps.st rfl rfl (Yv.neB bool4 rfl rfl).yl ?_
      exact QOps.nil rfl
    refine QOps.nil ?_
    refine Run.cond rfl (fun hc2 => ?_) (fun hc2 => ?_)
    · exfalso
      first | (simp at hc2; done) | (simp at hc2; omega)
    · try replace hc2 := of_decide_eq_false hc2
      refine Run.skip ?_
      refine Run.seq ?_
      refine Run.seq ?_
      refine Run.ops ?_
      refine SOps.st rfl rfl (Yv.move rfl).yl ?_
      refine SOps.st rfl rfl (Yl.call callable8 (.cons rfl (.nil)) (fun w' hw' => ParseNotice_spec (hd.at hw') (by omega))) ?_
      refine SOps.st rfl rfl (Yv.move rfl).yl ?_
      refine SOps.st rfl rfl (Yv.extract rfl rfl).yl ?_
      refine SOps.st rfl rfl (Yv.extract rfl rfl).yl ?_
      refine SOps.one rfl (One.alloc rfl zero25 (fun b2 => ?_))
      refine SOps.one rfl (One.store (i := 0) (off := 0) (vs := [_, _, _, _, _, _, _]) (cs' := [_, _, _, _, _, _, _]) (H' := [_, _]) lay25 rfl rfl rfl rfl rfl rfl rfl rfl rfl rfl ?_)
      refine SOps.st rfl rfl (Yv.assign rfl).yl ?_
      refine SOps.nil ?_
      refine Run.seq ?_
      refine Run.quiet (by intro h; cases h) ?_
      refine QOps.st rfl rfl (Yv.move rfl).yl ?_
      refine QOps.st rfl rfl (Yv.move rfl).yl ?_
      refine' QOps.and [_, _, _, _, _, _, _] _ (.tmp 70) rfl rfl rfl rfl rfl rfl (fun hg2 => ?_) ?_
      rotate_left
      · try replace hg2 := of_decide_eq_true hg2
        refine QOps.st rfl rfl (Yv.move rfl).yl ?_
        refine QOps.st rfl rfl (Yv.not rfl).yl ?_
        refine QOps.st rfl rfl (Yv.move rfl).yl ?_
        refine' QOps.or [_, _, _] _ (.tmp 69) rfl rfl rfl rfl rfl rfl (fun hg3 => ?_) ?_
        rotate_left
        · try replace hg3 := of_decide_eq_false hg3
          refine QOps.st rfl rfl (Yv.loadBs (i := 0) lay25 rfl rfl rfl rfl).yl ?_
          refine QOps.st rfl rfl (Yv.loadBs (i := 1) lay25 rfl rfl rfl rfl).yl ?_
          refine QOps.st rfl rfl (Yv.neS scal25 rfl rfl rfl rfl).yl ?_
          exact QOps.nil rfl
        exact QOps.nil rfl
      refine QOps.nil ?_
      refine Run.cond rfl (fun hc3 => ?_) (fun hc3 => ?_)
      · exfalso
        cases h8 : (textOf x1).2 with
        | false => rw [h8] at hc3; simp at hc3
        | true =>
          rw [h8, parse_text h8] at hc3
          simp [eqC] at hc3
      · try replace hc3 := of_decide_eq_false hc3
        refine Run.skip ?_
        refine Run.seq ?_
        refine Run.ops ?_
        refine SOps.st rfl rfl (Yv.move rfl).yl ?_
        refine SOps.one rfl (One.callE rfl callable9 (.cons rfl (.nil)) (fun w' hw' => DrawParseNotice_spec ((Rd.arg hs) w' hw')) (fun x2 hx2 => ?_))
        refine SOps.st rfl rfl (Yv.assign rfl).yl ?_
        refine SOps.nil ?_
        refine Run.seq ?_
        refine Run.ops ?_
        refine SOps.st rfl rfl (Yv.move rfl).yl ?_
        refine SOps.st rfl rfl (Yl.call callable8 (.cons rfl (.nil)) (fun w' hw' => ParseNotice_spec (hd.at hw') (by omega))) ?_
        refine SOps.st rfl rfl (Yv.move rfl).yl ?_
        refine SOps.st rfl rfl (Yv.extract rfl rfl).yl ?_
        refine SOps.st rfl rfl (Yv.extract rfl rfl).yl ?_
        refine SOps.one rfl (One.alloc rfl zero25 (fun b3 => ?_))
        refine SOps.one rfl (One.store (i := 0) (off := 0) (vs := [_, _, _, _, _, _, _]) (cs' := [_, _, _, _, _, _, _]) (H' := [_, _, _]) lay25 rfl rfl rfl rfl rfl rfl rfl rfl rfl rfl ?_)
        refine SOps.st rfl rfl (Yv.assign rfl).yl ?_
        refine SOps.nil ?_
        refine Run.seq ?_
        refine Run.seq ?_
        refine Run.ops ?_
        refine SOps.st rfl rfl (Yv.move rfl).yl ?_
        refine SOps.st rfl rfl (Yl.call callable10 (.cons rfl (.nil)) (fun w' hw' => sParseNotice_spec (by omega))) ?_
        refine SOps.st rfl rfl (Yv.move rfl).yl ?_
        refine SOps.st rfl rfl (Yv.extract rfl rfl).yl ?_
        refine SOps.st rfl rfl (Yv.extract rfl rfl).yl ?_
        refine SOps.one rfl (One.alloc rfl zero25 (fun b4 => ?_))
        refine SOps.one rfl (One.store (i := 0) (off := 0) (vs := [_, _, _, _, _, _, _]) (cs' := [_, _, _, _, _, _, _]) (H' := [_, _, _, _]) lay25 rfl rfl rfl rfl rfl rfl rfl rfl rfl rfl ?_)
        refine SOps.st rfl rfl (Yv.assign rfl).yl ?_
        refine SOps.nil ?_
        refine Run.seq ?_
        refine Run.quiet (by intro h; cases h) ?_
        refine QOps.st rfl rfl (Yv.loadBs (i := 1) lay25 rfl rfl rfl rfl).yl ?_
        refine QOps.st rfl rfl (Yv.loadBs (i := 0) lay25 rfl rfl rfl rfl).yl ?_
        refine QOps.st rfl rfl (Yv.neS scal25 rfl rfl rfl rfl).yl ?_
        refine QOps.st rfl rfl (Yv.move rfl).yl ?_
        refine' QOps.or [_, _, _] _ (.tmp 90) rfl rfl rfl rfl rfl rfl (fun hg4 => ?_) ?_
        rotate_left
        · try replace hg4 := of_decide_eq_false hg4
          refine QOps.st rfl rfl (Yv.move rfl).yl ?_
          refine QOps.st rfl rfl (Yv.move rfl).yl ?_
          refine QOps.st rfl rfl (Yv.neB bool4 rfl rfl).yl ?_
          exact QOps.nil rfl
        refine QOps.nil ?_
        refine Run.cond rfl (fun hc4 => ?_) (fun hc4 => ?_)
        · exfalso
          simp [eqC, Notice.enc] at hc4
        · try replace hc4 := of_decide_eq_false hc4
          refine Run.skip ?_
          refine Run.seq ?_
          refine Run.ops ?_
          refine SOps.st rfl rfl (Yv.move rfl).yl ?_
          refine SOps.one rfl (One.callER rfl callable11 (.cons rfl (.nil)) (fun w' hw' => DrawNoticesMet_spec ((Rd.arg hs) w' hw')) ?_)
          rintro ⟨ya3, yb3, yd3, ye3⟩ Aq3 cq3 hx3
          try dsimp only at *
          refine SOps.st rfl rfl (Yv.move rfl).yl ?_
          refine SOps.st rfl rfl (Yv.extract rfl rfl).yl ?_
          refine SOps.st rfl rfl (Yv.extract rfl rfl).yl ?_
          refine SOps.st rfl rfl (Yv.extract rfl rfl).yl ?_
          refine SOps.st rfl rfl (Yv.extract rfl rfl).yl ?_
          refine SOps.st rfl rfl (Yv.assign rfl).yl ?_
          refine SOps.st rfl rfl (Yv.assign rfl).yl ?_
          refine SOps.st rfl rfl (Yv.assign rfl).yl ?_
          refine SOps.st rfl rfl (Yv.assign rfl).yl ?_
          refine SOps.nil ?_
          refine Run.seq ?_
          refine Run.ops ?_
          refine SOps.st rfl rfl (Yv.move rfl).yl ?_
          refine SOps.st rfl rfl (Yv.move rfl).yl ?_
          refine SOps.st rfl rfl (Yv.move rfl).yl ?_
          refine SOps.st rfl rfl (Yv.move rfl).yl ?_
          refine SOps.one rfl (One.callRow rfl callable12 (.cons rfl (.cons rfl (.cons rfl (.cons rfl (.nil))))) (fun w' hw' => NoticesMet_spec ((Rd.row (i := 0) rfl) w' hw') (by omega)) (fun A1 c1 => ?_))
          refine SOps.st rfl rfl (Yv.move rfl).yl ?_
          refine SOps.st rfl rfl (Yv.extract rfl rfl).yl ?_
          refine SOps.st rfl rfl (Yv.extract rfl rfl).yl ?_
          refine SOps.st rfl rfl (Yv.assign rfl).yl ?_
          refine SOps.st rfl rfl (Yv.assign rfl).yl ?_
          refine SOps.nil ?_
          refine Run.seq ?_
          refine Run.seq ?_
          refine Run.ops ?_
          refine SOps.st rfl rfl (Yv.move rfl).yl ?_
          refine SOps.st rfl rfl (Yv.move rfl).yl ?_
          refine SOps.st rfl rfl (Yv.move rfl).yl ?_
          refine SOps.st rfl rfl (Yv.move rfl).yl ?_
          refine SOps.one rfl (One.callRow rfl callable13 (.cons rfl (.cons rfl (.cons rfl (.cons rfl (.nil))))) (fun w' hw' => sNoticesMet_spec ((Rd.row (i := 1) rfl) w' hw') (by omega)) (fun A2 c2 => ?_))
          refine SOps.st rfl rfl (Yv.move rfl).yl ?_
          refine SOps.st rfl rfl (Yv.extract rfl rfl).yl ?_
          refine SOps.st rfl rfl (Yv.extract rfl rfl).yl ?_
          refine SOps.st rfl rfl (Yv.assign rfl).yl ?_
          refine SOps.st rfl rfl (Yv.assign rfl).yl ?_
          refine SOps.nil ?_
          refine Run.seq ?_
          refine Run.quiet (by intro h; cases h) ?_
          refine QOps.st rfl rfl (Yv.move rfl).yl ?_
          refine QOps.st rfl rfl (Yv.move rfl).yl ?_
          refine QOps.st rfl rfl (Yv.neB bool4 rfl rfl).yl ?_
          refine QOps.st rfl rfl (Yv.move rfl).yl ?_
          refine' QOps.or [_, _, _, _] _ (.tmp 122) rfl rfl rfl rfl rfl rfl (fun hg5 => ?_) ?_
          rotate_left
          · try replace hg5 := of_decide_eq_false hg5
            refine QOps.st rfl rfl (Yv.move rfl).yl ?_
            refine QOps.st rfl rfl (Yv.move rfl).yl ?_
            refine QOps.st rfl rfl (Yl.call callable14 (.cons rfl (.cons rfl (.nil))) (fun w' hw' => rIntsE_spec (by first | rfl | exact met_sym | exact hst.met.symm) ((Rd.row (i := 1) rfl) w' hw') ((Rd.row (i := 0) rfl) w' hw'))) ?_
            refine QOps.st rfl rfl (Yv.not rfl).yl ?_
            exact QOps.nil rfl
          refine QOps.nil ?_
          refine Run.cond rfl (fun hc5 => ?_) (fun hc5 => ?_)
          · exfalso
            first | (simp at hc5; done) | (simp at hc5; omega)
          · try replace hc5 := of_decide_eq_false hc5
            refine Run.skip ?_
            refine Run.seq ?_
            refine Run.seq ?_
            refine Run.quiet (by intro h; cases h) ?_
            refine QOps.st rfl rfl (Yv.move rfl).yl ?_
            refine QOps.nil ?_
            refine Run.cond rfl (fun hc6 => ?_) (fun hc6 => ?_)
            · try replace hc6 := of_decide_eq_true hc6
              have hst := struck hc6
              have hel := endL_len (ns := ya3) (day := ye3)
              refine Run.seq ?_
              refine Run.ops ?_
              refine SOps.st rfl rfl (Yv.move rfl).yl ?_
              refine SOps.st rfl rfl (Yv.move rfl).yl ?_
              refine SOps.st rfl rfl (Yv.move rfl).yl ?_
              refine SOps.st rfl rfl (Yv.move rfl).yl ?_
              refine SOps.one rfl (One.callRow rfl callable12 (.cons rfl (.cons rfl (.cons rfl (.cons rfl (.nil))))) (fun w' hw' => NoticesMet_spec ((Rd.row (i := 2) rfl) w' hw') (by omega)) (fun A3 c3 => ?_))
              refine SOps.st rfl rfl (Yv.move rfl).yl ?_
              refine SOps.st rfl rfl (Yv.extract rfl rfl).yl ?_
              refine SOps.st rfl rfl (Yv.extract rfl rfl).yl ?_
              refine SOps.st rfl rfl (Yv.assign rfl).yl ?_
              refine SOps.st rfl rfl (Yv.assign rfl).yl ?_
              refine SOps.nil ?_
              refine Run.seq ?_
              refine Run.ops ?_
              refine SOps.st rfl rfl (Yv.move rfl).yl ?_
              refine SOps.st rfl rfl (Yv.move rfl).yl ?_
              refine SOps.one rfl (One.callRow rfl callable15 (.cons rfl (.cons rfl (.nil))) (fun w' hw' => EndedNotices_spec ((Rd.row (i := 3) rfl) w' hw') (by omega)) (fun A4 c4 => ?_))
              refine SOps.st rfl rfl (Yv.move rfl).yl ?_
              refine SOps.st rfl rfl (Yv.extract rfl rfl).yl ?_
              refine SOps.st rfl rfl (Yv.extract rfl rfl).yl ?_
              refine SOps.st rfl rfl (Yv.assign rfl).yl ?_
              refine SOps.st rfl rfl (Yv.assign rfl).yl ?_
              refine SOps.nil ?_
              refine Run.seq ?_
              refine Run.ops ?_
              refine SOps.st rfl rfl (Yv.move rfl).yl ?_
              refine SOps.st rfl rfl (Yv.move rfl).yl ?_
              refine SOps.st rfl rfl (Yv.move rfl).yl ?_
              refine SOps.st rfl rfl (Yv.move rfl).yl ?_
              refine SOps.one rfl (One.callRow rfl callable12 (.cons rfl (.cons rfl (.cons rfl (.cons rfl (.nil))))) (fun w' hw' => NoticesMet_spec ((Rd.row (i := 0) rfl) w' hw') (by omega)) (fun A5 c5 => ?_))
              refine SOps.st rfl rfl (Yv.move rfl).yl ?_
              refine SOps.st rfl rfl (Yv.extract rfl rfl).yl ?_
              refine SOps.st rfl rfl (Yv.extract rfl rfl).yl ?_
              refine SOps.st rfl rfl (Yv.assign rfl).yl ?_
              refine SOps.st rfl rfl (Yv.assign rfl).yl ?_
              refine SOps.nil ?_
              refine Run.seq ?_
              refine Run.quiet (by intro h; cases h) ?_
              refine QOps.st rfl rfl (Yv.move rfl).yl ?_
              refine QOps.st rfl rfl (Yv.not rfl).yl ?_
              refine QOps.st rfl rfl (Yv.move rfl).yl ?_
              refine' QOps.or [_, _, _, _] _ (.tmp 153) rfl rfl rfl rfl rfl rfl (fun hg6 => ?_) ?_
              rotate_left
              · try replace hg6 := of_decide_eq_false hg6
                refine QOps.st rfl rfl (Yv.move rfl).yl ?_
                refine QOps.st rfl rfl (Yv.move rfl).yl ?_
                refine QOps.st rfl rfl (Yl.call callable14 (.cons rfl (.cons rfl (.nil))) (fun w' hw' => rIntsE_spec (by first | rfl | exact met_sym | exact hst.met.symm) ((Rd.row (i := 2) rfl) w' hw') ((Rd.row (i := 4) rfl) w' hw'))) ?_
                refine QOps.st rfl rfl (Yv.not rfl).yl ?_
                exact QOps.nil rfl
              refine QOps.st rfl rfl (Yv.move rfl).yl ?_
              refine' QOps.or [_, _] _ (.tmp 157) rfl rfl rfl rfl rfl rfl (fun hg7 => ?_) ?_
              rotate_left
              · try replace hg7 := of_decide_eq_false hg7
                refine QOps.st rfl rfl (Yv.move rfl).yl ?_
                refine QOps.st rfl rfl (Yv.not rfl).yl ?_
                exact QOps.nil rfl
              refine QOps.st rfl rfl (Yv.move rfl).yl ?_
              refine' QOps.or [_, _] _ (.tmp 161) rfl rfl rfl rfl rfl rfl (fun hg8 => ?_) ?_
              rotate_left
              · try replace hg8 := of_decide_eq_false hg8
                refine QOps.st rfl rfl (Yv.move rfl).yl ?_
                refine QOps.st rfl rfl (Yv.not rfl).yl ?_
                exact QOps.nil rfl
              refine QOps.st rfl rfl (Yv.move rfl).yl ?_
              refine' QOps.or [_, _, _, _] _ (.tmp 167) rfl rfl rfl rfl rfl rfl (fun hg9 => ?_) ?_
              rotate_left
              · try replace hg9 := of_decide_eq_false hg9
                refine QOps.st rfl rfl (Yv.move rfl).yl ?_
                refine QOps.st rfl rfl (Yv.move rfl).yl ?_
                refine QOps.st rfl rfl (Yl.call callable14 (.cons rfl (.cons rfl (.nil))) (fun w' hw' => rIntsE_spec (by first | rfl | exact met_sym | exact hst.met.symm) ((Rd.row (i := 0) rfl) w' hw') ((Rd.row (i := 4) rfl) w' hw'))) ?_
                refine QOps.st rfl rfl (Yv.not rfl).yl ?_
                exact QOps.nil rfl
              refine QOps.st rfl rfl (Yv.move rfl).yl ?_
              refine' QOps.or [_, _, _] _ (.tmp 172) rfl rfl rfl rfl rfl rfl (fun hg10 => ?_) ?_
              rotate_left
              · try replace hg10 := of_decide_eq_false hg10
                refine QOps.st rfl rfl (Yv.move rfl).yl ?_
                refine QOps.st rfl rfl (Yl.call callable16 (.cons rfl (.nil)) (fun w' hw' => AreNotices_spec ((Rd.row (i := 5) rfl) w' hw'))) ?_
                refine QOps.st rfl rfl (Yv.not rfl).yl ?_
                exact QOps.nil rfl
              refine QOps.nil ?_
              refine Run.cond rfl (fun hc7 => ?_) (fun hc7 => ?_)
              · exfalso
                rw [asked_sym, hc6, hst.ok, hst.asked_, hst.are] at hc7
                simp at hc7
              · try replace hc7 := of_decide_eq_false hc7
                refine Run.skip ?_
                refine Run.seq ?_
                refine Run.ops ?_
                refine SOps.st rfl rfl (Yv.move rfl).yl ?_
                refine SOps.one rfl (One.callER rfl callable17 (.cons rfl (.nil)) (fun w' hw' => DrawEndedNotices_spec ((Rd.arg hs) w' hw')) ?_)
                rintro ⟨ya4, yb4⟩ Aq4 cq4 hx4
                try dsimp only at *
                refine SOps.st rfl rfl (Yv.move rfl).yl ?_
                refine SOps.st rfl rfl (Yv.extract rfl rfl).yl ?_
                refine SOps.st rfl rfl (Yv.extract rfl rfl).yl ?_
                refine SOps.st rfl rfl (Yv.assign rfl).yl ?_
                refine SOps.st rfl rfl (Yv.assign rfl).yl ?_
                refine SOps.nil ?_
                refine Run.seq ?_
                refine Run.ops ?_
                refine SOps.st rfl rfl (Yv.move rfl).yl ?_
                refine SOps.st rfl rfl (Yv.move rfl).yl ?_
                refine SOps.one rfl (One.callRow rfl callable15 (.cons rfl (.cons rfl (.nil))) (fun w' hw' => EndedNotices_spec ((Rd.row (i := 0) rfl) w' hw') (by omega)) (fun A6 c6 => ?_))
                refine SOps.st rfl rfl (Yv.move rfl).yl ?_
                refine SOps.st rfl rfl (Yv.extract rfl rfl).yl ?_
                refine SOps.st rfl rfl (Yv.extract rfl rfl).yl ?_
                refine SOps.st rfl rfl (Yv.assign rfl).yl ?_
                refine SOps.st rfl rfl (Yv.assign rfl).yl ?_
                refine SOps.nil ?_
                refine Run.seq ?_
                refine Run.ops ?_
                refine SOps.st rfl rfl (Yv.move rfl).yl ?_
                refine SOps.st rfl rfl (Yv.move rfl).yl ?_
                refine SOps.one rfl (One.callRow rfl callable18 (.cons rfl (.cons rfl (.nil))) (fun w' hw' => sEndedNotices_spec ((Rd.row (i := 1) rfl) w' hw') (by omega)) (fun A7 c7 => ?_))
                refine SOps.st rfl rfl (Yv.move rfl).yl ?_
                refine SOps.st rfl rfl (Yv.extract rfl rfl).yl ?_
                refine SOps.st rfl rfl (Yv.extract rfl rfl).yl ?_
                refine SOps.st rfl rfl (Yv.assign rfl).yl ?_
                refine SOps.st rfl rfl (Yv.assign rfl).yl ?_
                refine SOps.nil ?_
                refine Run.seq ?_
                refine Run.quiet (by intro h; cases h) ?_
                refine QOps.st rfl rfl (Yv.move rfl).yl ?_
                refine QOps.st rfl rfl (Yv.move rfl).yl ?_
                refine QOps.st rfl rfl (Yv.eqB bool4 rfl rfl).yl ?_
                refine QOps.st rfl rfl (Yv.move rfl).yl ?_
                refine' QOps.and [_, _, _] _ (.tmp 197) rfl rfl rfl rfl rfl rfl (fun hg11 => ?_) ?_
                rotate_left
                · try replace hg11 := of_decide_eq_true hg11
                  refine QOps.st rfl rfl (Yv.move rfl).yl ?_
                  refine QOps.st rfl rfl (Yv.move rfl).yl ?_
                  refine QOps.st rfl rfl (Yl.call callable19 (.cons rfl (.cons rfl (.nil))) (fun w' hw' => rNotices_spec ((Rd.row (i := 1) rfl) w' hw') ((Rd.row (i := 0) rfl) w' hw'))) ?_
                  exact QOps.nil rfl
                refine QOps.st rfl rfl (Yv.assign rfl).yl ?_
                refine QOps.nil ?_
                refine Run.ret ?_
                refine retQ.of (.inr rfl) rfl (.tmp rfl .nil) (fun w' hw' => ?_)
                refine ⟨?_, hw'.bel.below⟩
                refine retB_eq ?_
                simp
            · try replace hc6 := of_decide_eq_false hc6
              refine Run.skip ?_
              refine Run.seq ?_
              refine Run.ops ?_
              refine SOps.st rfl rfl (Yv.move rfl).yl ?_
              refine SOps.one rfl (One.callER rfl callable17 (.cons rfl (.nil)) (fun w' hw' => DrawEndedNotices_spec ((Rd.arg hs) w' hw')) ?_)
              rintro ⟨ya5, yb5⟩ Aq5 cq5 hx5
              try dsimp only at *
              refine SOps.st rfl rfl (Yv.move rfl).yl ?_
              refine SOps.st rfl rfl (Yv.extract rfl rfl).yl ?_
              refine SOps.st rfl rfl (Yv.extract rfl rfl).yl ?_
              refine SOps.st rfl rfl (Yv.assign rfl).yl ?_
              refine SOps.st rfl rfl (Yv.assign rfl).yl ?_
              refine SOps.nil ?_
              refine Run.seq ?_
              refine Run.ops ?_
              refine SOps.st rfl rfl (Yv.move rfl).yl ?_
              refine SOps.st rfl rfl (Yv.move rfl).yl ?_
              refine SOps.one rfl (One.callRow rfl callable15 (.cons rfl (.cons rfl (.nil))) (fun w' hw' => EndedNotices_spec ((Rd.row (i := 0) rfl) w' hw') (by omega)) (fun A8 c8 => ?_))
              refine SOps.st rfl rfl (Yv.move rfl).yl ?_
              refine SOps.st rfl rfl (Yv.extract rfl rfl).yl ?_
              refine SOps.st rfl rfl (Yv.extract rfl rfl).yl ?_
              refine SOps.st rfl rfl (Yv.assign rfl).yl ?_
              refine SOps.st rfl rfl (Yv.assign rfl).yl ?_
              refine SOps.nil ?_
              refine Run.seq ?_
              refine Run.ops ?_
              refine SOps.st rfl rfl (Yv.move rfl).yl ?_
              refine SOps.st rfl rfl (Yv.move rfl).yl ?_
              refine SOps.one rfl (One.callRow rfl callable18 (.cons rfl (.cons rfl (.nil))) (fun w' hw' => sEndedNotices_spec ((Rd.row (i := 1) rfl) w' hw') (by omega)) (fun A9 c9 => ?_))
              refine SOps.st rfl rfl (Yv.move rfl).yl ?_
              refine SOps.st rfl rfl (Yv.extract rfl rfl).yl ?_
              refine SOps.st rfl rfl (Yv.extract rfl rfl).yl ?_
              refine SOps.st rfl rfl (Yv.assign rfl).yl ?_
              refine SOps.st rfl rfl (Yv.assign rfl).yl ?_
              refine SOps.nil ?_
              refine Run.seq ?_
              refine Run.quiet (by intro h; cases h) ?_
              refine QOps.st rfl rfl (Yv.move rfl).yl ?_
              refine QOps.st rfl rfl (Yv.move rfl).yl ?_
              refine QOps.st rfl rfl (Yv.eqB bool4 rfl rfl).yl ?_
              refine QOps.st rfl rfl (Yv.move rfl).yl ?_
              refine' QOps.and [_, _, _] _ (.tmp 197) rfl rfl rfl rfl rfl rfl (fun hg12 => ?_) ?_
              rotate_left
              · try replace hg12 := of_decide_eq_true hg12
                refine QOps.st rfl rfl (Yv.move rfl).yl ?_
                refine QOps.st rfl rfl (Yv.move rfl).yl ?_
                refine QOps.st rfl rfl (Yl.call callable19 (.cons rfl (.cons rfl (.nil))) (fun w' hw' => rNotices_spec ((Rd.row (i := 1) rfl) w' hw') ((Rd.row (i := 0) rfl) w' hw'))) ?_
                exact QOps.nil rfl
              refine QOps.st rfl rfl (Yv.assign rfl).yl ?_
              refine QOps.nil ?_
              refine Run.ret ?_
              refine retQ.of (.inr rfl) rfl (.tmp rfl .nil) (fun w' hw' => ?_)
              refine ⟨?_, hw'.bel.below⟩
              refine retB_eq ?_
              simp
end Go.Proofs.YtjabeiolgghfdaaGreatDoor
