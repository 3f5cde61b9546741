/- The law FnExactMessageOf returns true at every input, and what it was handed reads as before; the tied card. Conditions: none. -/
import Derived.Test.YtlpgcbkialcjcaaDoorCards
import Derived.Test.YtlpgcbkialcjcaaDoorTie
import Derived.Test.YtlpgcbkialcjcaaDoorLaw
import Derived.Test.YtlpgcbkialcjcaaDoorMdB
import Derived.Lib.LaidTab
import Derived.LaidMore
import Derived.LaidSub
import Derived.OpenShut
import Derived.ChangeVars
import Derived.Stop.Joined
import Derived.SevenTiedAt
namespace Go.Proofs.YtlpgcbkialcjcaaDoor
open Go.ChangeShapes Go.WideShapes Go.ChangeAt Go.RowKit
set_option maxRecDepth 100000
theorem law_own : ownKnob Tryd.prog.godebug = none := by kernel_rfl
theorem law_laid : laidOutB Tryd.prog = true := by kernel_rfl
theorem Report.dec {H : Type} {enc : TypeId × Value → H} {W : World} (n : Nat) (cs : List Value) (x : DataW H × List MemPlace) (hl : cs.length = 6) (h : DataW.trod enc Tryd.prog W 0 (fun _ => true) true n 23 cs = some x) : ∃ a : Report, cs = a.enc := by
  obtain ⟨v0, h0, _⟩ := trod_fieldI 0 Tryd.underlying23 rfl Tryd.underlying3 (by kernel_rfl) h
  obtain ⟨v1, h1, _⟩ := trod_fieldI 1 Tryd.underlying23 rfl Tryd.underlying3 (by kernel_rfl) h
  obtain ⟨v2, h2, _⟩ := trod_fieldI 2 Tryd.underlying23 rfl Tryd.underlying3 (by kernel_rfl) h
  obtain ⟨v3, h3, _⟩ := trod_fieldI 3 Tryd.underlying23 rfl Tryd.underlying3 (by kernel_rfl) h
  obtain ⟨v4, h4, _⟩ := trod_fieldI 4 Tryd.underlying23 rfl Tryd.underlying3 (by kernel_rfl) h
  obtain ⟨v5, h5, _⟩ := trod_fieldI 5 Tryd.underlying23 rfl Tryd.underlying3 (by kernel_rfl) h
  match cs, hl with
  | [c0, c1, c2, c3, c4, c5], _ =>
    obtain rfl : c0 = _ := Option.some.inj h0
    obtain rfl : c1 = _ := Option.some.inj h1
    obtain rfl : c2 = _ := Option.some.inj h2
    obtain rfl : c3 = _ := Option.some.inj h3
    obtain rfl : c4 = _ := Option.some.inj h4
    obtain rfl : c5 = _ := Option.some.inj h5
    exact ⟨⟨v0, v1, v2, v3, v4, v5⟩, rfl⟩

theorem Report.open_ {H : Type} {enc : TypeId × Value → H} {W : World} {base : Nat} {v : Value} {d : DataW H} {q : List MemPlace} (hv : Value.okWide Tryd.prog W .any base 23 v) (h : DataW.Trod enc Tryd.prog W 0 (fun _ => true) true 23 v d q) : ∃ a : Report, v = .agg a.enc.toArray := by
  obtain ⟨cs, rfl, hcs⟩ := okWide_struct Tryd.underlying23 hv
  obtain ⟨fuel, hf⟩ := h
  have hsz : cs.size = 6 := hcs.trans (by kernel_rfl)
  obtain ⟨a, ha⟩ := Report.dec fuel cs.toList _ (by simpa using hsz) hf
  exact ⟨a, by congr 1; rw [← ha]⟩

/-- From the contract of a law to its row, where the row names a variable besides. -/
theorem law_post_var {H : Type} {enc : TypeId × Value → H} {P : Program} {f : Func} {s : ChangeSpec} {nm : String} {apart fresh handsOn : Bool} {W W' : World} {args : Array Value} {ds gs : List (DataW H)} {before : List MemPlace} {tb g0 t0 : TypeId} (hl : laidOutB P = true) (hvars : s.vars = [nm]) (hty : f.resultTypes = #[tb]) (htb : P.underlying tb = some .bool)
    (hp : readAll P f.params.toList = true) (hg0 : P.globalNamed nm = some g0) (ht0 : (P.globals[g0]?).map (·.type) = some t0) (hr0 : readAll P [t0] = true)
    (hfn : ∀ (ds : List (DataW H)) (d : DataW H), ds.length = f.params.size → s.fn H (ds ++ [d]) = { results := [.lit (.bool true)], args := ds, vars := [d] })
    (hlen : ds.length = f.params.size) (hW : DataW.Whole enc P f.params.toList s.vars apart W args.toList ds gs before) (hb : Below W.heap.size W W') : s.post enc P f apart fresh handsOn false W args (.bool true) W' := by
  have hW' := hW
  obtain ⟨p, q, hA, hV, rfl, hfz, hnd⟩ := hW
  rw [hvars] at hV
  obtain ⟨g, t, cs, fuel, d, p0, rfl, h1, h2, h3, h4, rfl⟩ := trodVars_one hV
  obtain rfl := Option.some.inj (hg0.symm.trans h1)
  obtain rfl := Option.some.inj (ht0.symm.trans h2)
  have hlt : ∀ x ∈ p, x.block < W.heap.size := fun x hx => hW'.lt x (by simp [hx])
  have hold : ∀ x ∈ p, (fun b => decide (b < W.heap.size)) x.block = true := fun x hx => by simpa using hlt x hx
  have hlt2 : ∀ x ∈ p0, x.block < W.heap.size := fun x hx => hW'.lt x (by simp [hx])
  have hold2 : ∀ x ∈ p0, (fun b => decide (b < W.heap.size)) x.block = true := fun x hx => by simpa using hlt2 x hx
  have hf := hfn ds d hlen
  have h3' : W'.var? P nm = some cs := by
    simp only [World.var?, hg0, Option.bind_some] at h3 ⊢
    have hgl : g0 < W.heap.size := by
      rcases Nat.lt_or_ge g0 W.heap.size with h' | h'
      · exact h'
      · rw [Array.getElem?_eq_none h'] at h3; simp at h3
    rw [hb.block g0 hgl]
    exact h3
  simp only [readAll, List.all_cons, List.all_nil, Bool.and_eq_true, Bool.and_true] at hr0
  obtain ⟨fuel', h4'⟩ : DataW.Trod enc P W' 0 (fun b => decide (b < W.heap.size)) true t0 (.agg cs) d p0 :=
    WideElems.Trod_stays hl hr0.1 (by simpa using hr0.2) (v := .agg cs) ⟨fuel, h4⟩ (fun p hp => hb.same (hlt2 p hp)) hold2
  refine ⟨ds, [d], p ++ (MemPlace.row ⟨g0, 0, none⟩ cs.size ++ p0), [], p, MemPlace.row ⟨g0, 0, none⟩ cs.size ++ p0, hW', ?_, ?_, ?_, hb.frame _, fun h => by cases h⟩
  · rw [hf, hty]
    exact trodAll_mk1 (shut_bool htb true)
  · rw [hf]
    exact trodAll_stays hl hb hp hA hlt hold
  · rw [hvars, hf]
    exact trodVars_mk1 hg0 ht0 h3' h4'
/-- What the row lists of the decimal powers. -/
theorem tab_of {W : World} (h : laidMetH Tryd.prog Rows.fnExactMessageOfRow.laid W) : Tab10 W := by
  have h2 := laidMetH.filter (fun x => x.1 == "internal/strconv.uint64pow10") h
  rw [show Rows.fnExactMessageOfRow.laid.filter (fun x => x.1 == "internal/strconv.uint64pow10") = [("internal/strconv.uint64pow10", Lib.tabData .u64 Lib.pow10Tab)] by kernel_rfl] at h2
  rw [MakeChecks.laidMetH_plain _ _ _ (by kernel_rfl)] at h2
  exact Lib.tabIs_of_head (g := 4) (t := 100) (by kernel_rfl) (by kernel_rfl) Tryd.underlying100 Tryd.underlying85 (by kernel_rfl) (by kernel_rfl) h2
/-- What the row lists of the words. -/
theorem words_of {W : World} (h : laidMetH Tryd.prog Rows.fnExactMessageOfRow.laid W) : Words W := by
  have h2 := laidMetH.filter (fun x => x.1 == "loop.example/g00924/impl.reportWords") h
  rw [show Rows.fnExactMessageOfRow.laid.filter (fun x => x.1 == "loop.example/g00924/impl.reportWords") = [("loop.example/g00924/impl.reportWords", Rows.laid_loop_example_g00924_impl_reportWords)] by kernel_rfl] at h2
  rw [MakeChecks.laidMetH_plain _ _ _ (by kernel_rfl)] at h2
  obtain ⟨ps, ⟨g', t', cs, fuel, p, q, hg', ht', hvar, hd, _, _⟩, _⟩ := h2
  obtain rfl := Option.some.inj ((show Tryd.prog.globalNamed "loop.example/g00924/impl.reportWords" = some 0 by kernel_rfl).symm.trans hg')
  obtain rfl := Option.some.inj ((show (Tryd.prog.globals[0]?).map (·.type) = some 47 by kernel_rfl).symm.trans ht')
  obtain ⟨xs, m, rfl, hx, hlen, hn, hel⟩ := DataW.trod_array Tryd.underlying47 hd
  have c9 : Tryd.prog.cellsOf 9 = 1 := by kernel_rfl
  rw [c9] at hel
  have hx1 : xs.map (·.1) = wordsL.map (fun l => (DataW.lit (.string l) : DataW Unit)) := by
    have h3 := congrArg Prod.fst hx
    simp only [Rows.laid_loop_example_g00924_impl_reportWords, DataW.agg.injEq] at h3
    exact h3.symm
  intro k hk
  have hxk : k < xs.length := by omega
  have hk' := hel k hk
  rw [List.getElem?_eq_getElem hxk] at hk'
  obtain ⟨s, e, f, _⟩ := DataW.trod_string Tryd.underlying9 hk'
  have hc : cs.toList[k]? = some (.string s) := by
    have h4 := congrArg (·[0]?) e
    simpa [List.getElem?_take, List.getElem?_drop] using h4
  have hd2 : (xs.map (·.1))[k]? = some (DataW.lit (.string s.data.toList) : DataW Unit) := by
    rw [List.getElem?_map, List.getElem?_eq_getElem hxk, Option.map_some, f]
  rw [hx1, List.getElem?_map] at hd2
  have hkl : wordsL[k]? = some (nth wordsL k) := nth_get (by simpa [wordsL] using hk)
  rw [hkl] at hd2
  simp only [Option.map_some, Option.some.injEq, DataW.lit.injEq, Lit.string.injEq] at hd2
  have h5 := World.var?_cell hg' hvar k
  rw [h5, hd2]
  simpa using hc
/-- The door's own heap meets the condition. -/
theorem door_met (os : Os) (args : Array Value) : laidMetH Tryd.prog Rows.fnExactMessageOfRow.laid ((World.doorLaid Tryd.prog 400 os).forCall (fun _ _ => 0) ⟨#[], args, []⟩).memory :=
  laidMetH_of_parts3 (fuel := 8) (laidMet_of_run' 8 (by kernel_rfl) (by kernel_rfl)) (by kernel_rfl) (by kernel_rfl)
set_option maxRecDepth 100000 in
theorem lifted (os : Os) (started : os.Started) (H : Type) (enc : TypeId × Value → H) :
    ReturnsInHanded {} Tryd.checked os 3 .any (fun w args => (Rows.fnExactMessageOfSpec.pre enc Tryd.prog Tryd.f3 [] false w args ∧ laidMetH Tryd.prog Rows.fnExactMessageOfRow.laid w) ∧ sizedMet enc Tryd.prog Tryd.f3 (OpenSpec.ofChange Rows.fnExactMessageOfSpec) false w args)
      (Rows.fnExactMessageOfSpec.post enc Tryd.prog Tryd.f3 false true false false) := by
  refine returnsInHanded_of_change_and (C := Tryd.checked) (X := fun w _ => laidMetH Tryd.prog Rows.fnExactMessageOfRow.laid w) (fun _ _ _ hh h => h.of_heap hh) law_own started (by kernel_rfl) Tryd.func3
    (ChangeSpec.witness_shaped (enc := enc) (C := Tryd.checked) (os := os) (X := fun w _ => laidMetH Tryd.prog Rows.fnExactMessageOfRow.laid w) false (World.doorLaid Tryd.prog 400 os) #[.agg #[.int .i64 0, .int .i64 0, .int .i64 0, .int .i64 0, .int .i64 0, .int .i64 0]] 8 rfl (World.shaped_of_RefB (by kernel_rfl) (by kernel_rfl)) (by kernel_rfl) (by kernel_rfl) (by kernel_rfl) (door_met os _)) ?_
  intro W base args ds gs before hval0 hW _ _ hL _
  have hval : ∀ (j : Nat) t v, Tryd.f3.params[j]? = some t → args[j]? = some v → Value.okWide Tryd.prog W .any base t v := hval0
  have hW' : DataW.Whole enc Tryd.prog Tryd.f3.params.toList Rows.fnExactMessageOfSpec.vars false W args.toList ds gs before := hW
  obtain ⟨p, q, hA0, hV, rfl, hfz, hnd⟩ := hW
  have hA : DataW.TrodAll enc Tryd.prog W 0 (fun _ => true) true Tryd.f3.params.toList args.toList ds p := hA0
  rw [Tryd.params3] at hA hval
  obtain ⟨v0, d0, rfl, rfl, h0⟩ := trodAll_one hA
  obtain ⟨q0, rfl⟩ := Report.open_ (hval 0 23 v0 rfl rfl) h0
  refine (FnExactMessageOf_spec (tab_of hL) (words_of hL)).mono fun e W' ⟨he, hb⟩ => ?_
  exact ⟨_, he, law_post_var law_laid rfl (by kernel_rfl) Tryd.underlying4 (by kernel_rfl) (show Tryd.prog.globalNamed "loop.example/g00924/impl.reportWords" = some 0 by kernel_rfl) (t0 := 47) (by kernel_rfl) (by kernel_rfl) (fun ds d hl => by match ds, hl with | [x0], _ => rfl) rfl hW' hb⟩
theorem fnExactMessageOf_holds : Rows.FnExactMessageOfSaid :=
  OpenClaim.holds_of_wide 3 Tryd.f3 rfl rfl rfl rfl rfl rfl rfl ⟨rfl, rfl, rfl, rfl, rfl⟩ rfl rfl rfl rfl rfl (by kernel_rfl) Tryd.func3 (by kernel_rfl)
    (of_decide_eq_true (by kernel_rfl)) (by unfold Func.isWrapper; first | (rw [if_pos (by decide +kernel)]; kernel_rfl) | (rw [if_neg (by decide +kernel)]; exact ⟨rfl, rfl⟩))
    (fun os started H enc _ => lifted os started H enc)
theorem fnExactMessageOfCard_holds : Rows.FnExactMessageOfCardSaid :=
  Claim7.holds_tied_plain_at .later [] [.data, .data, .data, .widerDeep] true (true, "38aaf2fedfbddf007f4b6b5dc82464ac8a28f6a96871618f9759420f6975e03c") true
    fnExactMessageOf_holds (fun _ h => by cases h) (by kernel_rfl) (fun _ h => by cases h) fnExactMessageOf_row_tie rfl ⟨rfl, rfl⟩ (by kernel_rfl) rfl
    (fun f fn hf hfn => by
      obtain rfl : f = 3 := Option.some.inj ((show Tryd.prog.funcNamed "loop.example/g00924/laws.FnExactMessageOf" = some 3 by kernel_rfl).symm.trans hf) |>.symm
      obtain rfl : fn = Tryd.f3 := (Option.some.inj (Tryd.func3.symm.trans hfn)).symm
      exact ⟨by kernel_rfl, fun j t ht => by
        rw [Tryd.params3] at ht
        have hm : t ∈ [23] := by simpa using Array.mem_of_getElem? ht
        have hall : ([23].all fun u => !Tryd.prog.wantsStandIn u) = true := by kernel_rfl
        exact (show Tryd.prog.wantsStandIn t = false by simpa using List.all_eq_true.1 hall t hm)⟩)
    (by kernel_rfl)
end Go.Proofs.YtlpgcbkialcjcaaDoor
