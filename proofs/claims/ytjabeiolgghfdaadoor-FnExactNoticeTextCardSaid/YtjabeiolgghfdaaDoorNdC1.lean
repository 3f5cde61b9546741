/- The law FnExactNoticeText returns true at every input, and what it was handed reads as before; the tied card. Conditions: none. -/
import Derived.Test.YtjabeiolgghfdaaDoorCards
import Derived.Test.YtjabeiolgghfdaaDoorTie
import Derived.Test.YtjabeiolgghfdaaDoorLaw
import Derived.Test.YtjabeiolgghfdaaDoorNdB
import Derived.Lib.LaidTab
import Derived.LaidMore
import Derived.LaidSub
import Derived.OpenShut
import Derived.Stop.Joined
import Derived.SevenTiedAt
namespace Go.Proofs.YtjabeiolgghfdaaDoor
open Go.ChangeShapes Go.WideShapes Go.ChangeAt Go.RowKit
set_option maxRecDepth 100000
theorem law_own : ownKnob Tryd.prog.godebug = none := by kernel_rfl
theorem law_laid : laidOutB Tryd.prog = true := by kernel_rfl
theorem Notice.dec {H : Type} {enc : TypeId × Value → H} {W : World} (n : Nat) (cs : List Value) (x : DataW H × List MemPlace) (hl : cs.length = 7) (h : DataW.trod enc Tryd.prog W 0 (fun _ => true) true n 23 cs = some x) : ∃ a : Notice, cs = a.enc := by
  obtain ⟨v0, h0, _⟩ := trod_fieldI 0 Tryd.underlying23 rfl Tryd.underlying3 (by kernel_rfl) h
  obtain ⟨v1, h1, _⟩ := trod_fieldI 1 Tryd.underlying23 rfl Tryd.underlying3 (by kernel_rfl) h
  obtain ⟨v2, h2, _⟩ := trod_fieldI 2 Tryd.underlying23 rfl Tryd.underlying3 (by kernel_rfl) h
  obtain ⟨v3, h3, _⟩ := trod_fieldI 3 Tryd.underlying23 rfl Tryd.underlying3 (by kernel_rfl) h
  obtain ⟨v4, h4, _⟩ := trod_fieldI 4 Tryd.underlying23 rfl Tryd.underlying3 (by kernel_rfl) h
  obtain ⟨v5, h5, _⟩ := trod_fieldI 5 Tryd.underlying23 rfl Tryd.underlying3 (by kernel_rfl) h
  obtain ⟨v6, h6, _⟩ := trod_fieldI 6 Tryd.underlying23 rfl Tryd.underlying3 (by kernel_rfl) h
  match cs, hl with
  | [c0, c1, c2, c3, c4, c5, c6], _ =>
    obtain rfl : c0 = _ := Option.some.inj h0
    obtain rfl : c1 = _ := Option.some.inj h1
    obtain rfl : c2 = _ := Option.some.inj h2
    obtain rfl : c3 = _ := Option.some.inj h3
    obtain rfl : c4 = _ := Option.some.inj h4
    obtain rfl : c5 = _ := Option.some.inj h5
    obtain rfl : c6 = _ := Option.some.inj h6
    exact ⟨⟨v0, v1, v2, v3, v4, v5, v6⟩, rfl⟩

theorem Notice.open_ {H : Type} {enc : TypeId × Value → H} {W : World} {base : Nat} {v : Value} {d : DataW H} {q : List MemPlace} (hv : Value.okWide Tryd.prog W .any base 23 v) (h : DataW.Trod enc Tryd.prog W 0 (fun _ => true) true 23 v d q) : ∃ a : Notice, v = .agg a.enc.toArray := by
  obtain ⟨cs, rfl, hcs⟩ := okWide_struct Tryd.underlying23 hv
  obtain ⟨fuel, hf⟩ := h
  have hsz : cs.size = 7 := hcs.trans (by kernel_rfl)
  obtain ⟨a, ha⟩ := Notice.dec fuel cs.toList _ (by simpa using hsz) hf
  exact ⟨a, by congr 1; rw [← ha]⟩

/-- What the row lists of the decimal powers. -/
theorem tab_of {W : World} (h : laidMetH Tryd.prog Rows.fnExactNoticeTextRow.laid W) : Tab10 W := by
  have h2 := laidMetH.filter (fun x => x.1 == "internal/strconv.uint64pow10") h
  rw [show Rows.fnExactNoticeTextRow.laid.filter (fun x => x.1 == "internal/strconv.uint64pow10") = [("internal/strconv.uint64pow10", Lib.tabData .u64 Lib.pow10Tab)] by kernel_rfl] at h2
  rw [MakeChecks.laidMetH_plain _ _ _ (by kernel_rfl)] at h2
  exact Lib.tabIs_of_head (g := 5) (t := 99) (by kernel_rfl) (by kernel_rfl) Tryd.underlying99 Tryd.underlying84 (by kernel_rfl) (by kernel_rfl) h2
/-- The door's own heap meets the condition. -/
theorem door_met (os : Os) (args : Array Value) : laidMetH Tryd.prog Rows.fnExactNoticeTextRow.laid ((World.doorLaid Tryd.prog 400 os).forCall (fun _ _ => 0) ⟨#[], args, []⟩).memory :=
  laidMetH_of_parts3 (fuel := 8) (laidMet_of_run' 8 (by kernel_rfl) (by kernel_rfl)) (by kernel_rfl) (by kernel_rfl)
set_option maxRecDepth 100000 in
theorem lifted (os : Os) (started : os.Started) (H : Type) (enc : TypeId × Value → H) :
    ReturnsInHanded {} Tryd.checked os 3 .any (fun w args => (Rows.fnExactNoticeTextSpec.pre enc Tryd.prog Tryd.f3 [] false w args ∧ laidMetH Tryd.prog Rows.fnExactNoticeTextRow.laid w) ∧ sizedMet enc Tryd.prog Tryd.f3 (OpenSpec.ofChange Rows.fnExactNoticeTextSpec) false w args)
      (Rows.fnExactNoticeTextSpec.post enc Tryd.prog Tryd.f3 false true false false) := by
  refine returnsInHanded_of_change_and (C := Tryd.checked) (X := fun w _ => laidMetH Tryd.prog Rows.fnExactNoticeTextRow.laid w) (fun _ _ _ hh h => h.of_heap hh) law_own started (by kernel_rfl) Tryd.func3
    (ChangeSpec.witness_shaped (enc := enc) (C := Tryd.checked) (os := os) (X := fun w _ => laidMetH Tryd.prog Rows.fnExactNoticeTextRow.laid w) false (World.doorLaid Tryd.prog 400 os) #[.agg #[.int .i64 0, .int .i64 0, .int .i64 0, .int .i64 0, .int .i64 0, .int .i64 0, .int .i64 0]] 8 rfl (World.shaped_of_RefB (by kernel_rfl) (by kernel_rfl)) (by kernel_rfl) (by kernel_rfl) (by kernel_rfl) (door_met os _)) ?_
  intro W base args ds gs before hval0 hW _ _ hL _
  have hval : ∀ (j : Nat) t v, Tryd.f3.params[j]? = some t → args[j]? = some v → Value.okWide Tryd.prog W .any base t v := hval0
  have hW' : DataW.Whole enc Tryd.prog Tryd.f3.params.toList [] false W args.toList ds gs before := hW
  obtain ⟨p, q, hA0, hV, rfl, hfz, hnd⟩ := hW
  have hA : DataW.TrodAll enc Tryd.prog W 0 (fun _ => true) true Tryd.f3.params.toList args.toList ds p := hA0
  obtain ⟨rfl, rfl⟩ := trodVars_none hV
  rw [Tryd.params3] at hA hval
  obtain ⟨v0, d0, rfl, rfl, h0⟩ := trodAll_one hA
  obtain ⟨q0, rfl⟩ := Notice.open_ (hval 0 23 v0 rfl rfl) h0
  refine (FnExactNoticeText_spec (tab_of hL)).mono fun e W' ⟨he, hb⟩ => ?_
  exact ⟨_, he, law_post law_laid rfl (by kernel_rfl) Tryd.underlying4 (by kernel_rfl) (fun ds hl => by match ds, hl with | [x0], _ => rfl) rfl hW' hb⟩
theorem fnExactNoticeText_holds : Rows.FnExactNoticeTextSaid :=
  OpenClaim.holds_of_wide 3 Tryd.f3 rfl rfl rfl rfl rfl rfl rfl ⟨rfl, rfl, rfl, rfl, rfl⟩ rfl rfl rfl rfl rfl (by kernel_rfl) Tryd.func3 (by kernel_rfl)
    (of_decide_eq_true (by kernel_rfl)) (by unfold Func.isWrapper; first | (rw [if_pos (by decide +kernel)]; kernel_rfl) | (rw [if_neg (by decide +kernel)]; exact ⟨rfl, rfl⟩))
    (fun os started H enc _ => lifted os started H enc)
theorem fnExactNoticeTextCard_holds : Rows.FnExactNoticeTextCardSaid :=
  Claim7.holds_tied_plain_at .later [] [.data, .data, .data] true (true, "2de4ddeab0a07d67c5ad98236e381b39afa14098f726f1c32abb4776c0508380") true
    fnExactNoticeText_holds (fun _ h => by cases h) (by kernel_rfl) (fun _ h => by cases h) fnExactNoticeText_row_tie rfl ⟨rfl, rfl⟩ (by kernel_rfl) rfl
    (fun f fn hf hfn => by
      obtain rfl : f = 3 := Option.some.inj ((show Tryd.prog.funcNamed "loop.example/g00924/laws.FnExactNoticeText" = some 3 by kernel_rfl).symm.trans hf) |>.symm
      obtain rfl : fn = Tryd.f3 := (Option.some.inj (Tryd.func3.symm.trans hfn)).symm
      exact ⟨by kernel_rfl, fun j t ht => by
        rw [Tryd.params3] at ht
        have hm : t ∈ [23] := by simpa using Array.mem_of_getElem? ht
        have hall : ([23].all fun u => !Tryd.prog.wantsStandIn u) = true := by kernel_rfl
        exact (show Tryd.prog.wantsStandIn t = false by simpa using List.all_eq_true.1 hall t hm)⟩)
    (by kernel_rfl)
end Go.Proofs.YtjabeiolgghfdaaDoor
