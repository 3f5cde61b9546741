/- The law FnExactParseMessage returns true at every input, and what it was handed reads as before; the tied card. Conditions: none. -/
import Derived.Test.YtlpgcbkialcjcaaDoorCards
import Derived.Test.YtlpgcbkialcjcaaDoorTie
import Derived.Test.YtlpgcbkialcjcaaDoorLaw
import Derived.Test.YtlpgcbkialcjcaaDoorSh
import Derived.Test.YtlpgcbkialcjcaaDoorMeR
import Derived.Lib.LaidTab
import Derived.LaidMore
import Derived.LaidSub
import Derived.OpenShut
import Derived.ChangeVars
import Derived.Lay
import Derived.ChangeMaps5
import Derived.Shelf.Vars
import Derived.Stop.Joined
import Derived.SevenTiedAt
namespace Go.Proofs.YtlpgcbkialcjcaaDoor
open Go.ChangeShapes Go.WideShapes Go.ChangeAt Go.RowKit
set_option maxRecDepth 100000
/-- From the contract of a law to its row, where the row names a variable besides. -/
theorem law_post_var {H : Type} {enc : TypeId × Value → H} {P : Program} {f : Func} {s : ChangeSpec} {nm : String} {apart fresh handsOn : Bool} {W W' : World} {args : Array Value} {ds gs : List (DataW H)} {before : List MemPlace} {tb g0 t0 : TypeId} (hl : laidOutB P = true) (hvars : s.vars = [nm]) (hty : f.resultTypes = #[tb]) (htb : P.underlying tb = some .bool)
    (hp : readAll P f.params.toList = true) (hg0 : P.globalNamed nm = some g0) (ht0 : (P.globals[g0]?).map (·.type) = some t0) (hr0 : readAll P [t0] = true)
    (hfn : ∀ (ds : List (DataW H)) (d : DataW H), ds.length = f.params.size → s.fn H (ds ++ [d]) = { results := [.lit (.bool true)], args := ds, vars := [d] })
    (hlen : ds.length = f.params.size) (hW : DataW.Whole enc P f.params.toList s.vars apart W args.toList ds gs before) (hb : Below W.heap.size W W') : s.post enc P f apart fresh handsOn false W args (.bool true) W' := by
  have hW' := hW
  obtain ⟨p, q, hA, hV, rfl, hfz, hnd⟩ := hW
  rw [hvars] at hV
  obtain ⟨g, t, cs, fuel, d, p0, rfl, h1, h2, h3, h4, rfl⟩ := trodVars_one hV
  obtain rfl := Option.some.inj (hg0.symm.trans h1)
  obtain rfl := Option.some.inj (ht0.symm.trans h2)
  have hlt : ∀ x ∈ p, x.block < W.heap.size := fun x hx => hW'.lt x (by simp [hx])
  have hold : ∀ x ∈ p, (fun b => decide (b < W.heap.size)) x.block = true := fun x hx => by simpa using hlt x hx
  have hlt2 : ∀ x ∈ p0, x.block < W.heap.size := fun x hx => hW'.lt x (by simp [hx])
  have hold2 : ∀ x ∈ p0, (fun b => decide (b < W.heap.size)) x.block = true := fun x hx => by simpa using hlt2 x hx
  have hf := hfn ds d hlen
  have h3' : W'.var? P nm = some cs := by
    simp only [World.var?, hg0, Option.bind_some] at h3 ⊢
    have hgl : g0 < W.heap.size := by
      rcases Nat.lt_or_ge g0 W.heap.size with h' | h'
      · exact h'
      · rw [Array.getElem?_eq_none h'] at h3; simp at h3
    rw [hb.block g0 hgl]
    exact h3
  simp only [readAll, List.all_cons, List.all_nil, Bool.and_eq_true, Bool.and_true] at hr0
  obtain ⟨fuel', h4'⟩ : DataW.Trod enc P W' 0 (fun b => decide (b < W.heap.size)) true t0 (.agg cs) d p0 :=
    WideElems.Trod_stays hl hr0.1 (by simpa using hr0.2) (v := .agg cs) ⟨fuel, h4⟩ (fun p hp => hb.same (hlt2 p hp)) hold2
  refine ⟨ds, [d], p ++ (MemPlace.row ⟨g0, 0, none⟩ cs.size ++ p0), [], p, MemPlace.row ⟨g0, 0, none⟩ cs.size ++ p0, hW', ?_, ?_, ?_, hb.frame _, fun h => by cases h⟩
  · rw [hf, hty]
    exact trodAll_mk1 (shut_bool htb true)
  · rw [hf]
    exact trodAll_stays hl hb hp hA hlt hold
  · rw [hvars, hf]
    exact trodVars_mk1 hg0 ht0 h3' h4'
/-- What the row lists of the words. -/
theorem words_of {W : World} (h : laidMetH Tryd.prog Rows.fnExactParseMessageRow.laid W) : Words W := by
  have h2 := laidMetH.filter (fun x => x.1 == "loop.example/g00924/impl.reportWords") h
  rw [show Rows.fnExactParseMessageRow.laid.filter (fun x => x.1 == "loop.example/g00924/impl.reportWords") = [("loop.example/g00924/impl.reportWords", Rows.laid_loop_example_g00924_impl_reportWords)] by kernel_rfl] at h2
  rw [MakeChecks.laidMetH_plain _ _ _ (by kernel_rfl)] at h2
  obtain ⟨ps, ⟨g', t', cs, fuel, p, q, hg', ht', hvar, hd, _, _⟩, _⟩ := h2
  obtain rfl := Option.some.inj ((show Tryd.prog.globalNamed "loop.example/g00924/impl.reportWords" = some 0 by kernel_rfl).symm.trans hg')
  obtain rfl := Option.some.inj ((show (Tryd.prog.globals[0]?).map (·.type) = some 47 by kernel_rfl).symm.trans ht')
  obtain ⟨xs, m, rfl, hx, hlen, hn, hel⟩ := DataW.trod_array Tryd.underlying47 hd
  have c9 : Tryd.prog.cellsOf 9 = 1 := by kernel_rfl
  rw [c9] at hel
  have hx1 : xs.map (·.1) = wordsL.map (fun l => (DataW.lit (.string l) : DataW Unit)) := by
    have h3 := congrArg Prod.fst hx
    simp only [Rows.laid_loop_example_g00924_impl_reportWords, DataW.agg.injEq] at h3
    exact h3.symm
  intro k hk
  have hxk : k < xs.length := by omega
  have hk' := hel k hk
  rw [List.getElem?_eq_getElem hxk] at hk'
  obtain ⟨s, e, f, _⟩ := DataW.trod_string Tryd.underlying9 hk'
  have hc : cs.toList[k]? = some (.string s) := by
    have h4 := congrArg (·[0]?) e
    simpa [List.getElem?_take, List.getElem?_drop] using h4
  have hd2 : (xs.map (·.1))[k]? = some (DataW.lit (.string s.data.toList) : DataW Unit) := by
    rw [List.getElem?_map, List.getElem?_eq_getElem hxk, Option.map_some, f]
  rw [hx1, List.getElem?_map] at hd2
  have hkl : wordsL[k]? = some (nth wordsL k) := nth_get (by simpa [wordsL] using hk)
  rw [hkl] at hd2
  simp only [Option.map_some, Option.some.injEq, DataW.lit.injEq, Lit.string.injEq] at hd2
  have h5 := World.var?_cell hg' hvar k
  rw [h5, hd2]
  simpa using hc
theorem law_own : ownKnob Tryd.prog.godebug = none := by kernel_rfl
theorem law_laid : laidOutB Tryd.prog = true := by kernel_rfl
/-- What the row lists of the decimal powers. -/
theorem tab_of {W : World} (h : laidMetH Tryd.prog Rows.fnExactParseMessageRow.laid W) : Tab10 W := by
  have h2 := laidMetH.filter (fun x => x.1 == "internal/strconv.uint64pow10") h
  rw [show Rows.fnExactParseMessageRow.laid.filter (fun x => x.1 == "internal/strconv.uint64pow10") = [("internal/strconv.uint64pow10", Lib.tabData .u64 Lib.pow10Tab)] by kernel_rfl] at h2
  rw [MakeChecks.laidMetH_plain _ _ _ (by kernel_rfl)] at h2
  exact Lib.tabIs_of_head (g := 4) (t := 100) (by kernel_rfl) (by kernel_rfl) Tryd.underlying100 Tryd.underlying85 (by kernel_rfl) (by kernel_rfl) h2
theorem trod_iface_inv {H : Type} {enc : TypeId × Value → H} {P : Program} {w : World} {base : Nat} {sp : Nat → Bool} {held : Bool} {fuel : Nat} {t : TypeId} {cs : List Value} {x : DataW H × List MemPlace} {ms : Array (String × TypeId)} (hu : P.underlying t = some (.interface ms)) (h : DataW.trod enc P w base sp held fuel t cs = some x) : ∃ v, cs = [v] ∧ (v = .nilIface ∨ ∃ a b, v = .iface a b) := by
  cases fuel with
  | zero => simp [DataW.trod] at h
  | succ f =>
    rcases cs with _ | ⟨v, _ | ⟨v2, r⟩⟩
    · simp [DataW.trod, hu] at h
    · refine ⟨v, rfl, ?_⟩
      cases v <;> first | exact .inl rfl | exact .inr ⟨_, _, rfl⟩ | (simp [DataW.trod, hu] at h)
    · simp [DataW.trod, hu] at h
/-- What the row lists of strconv.ErrSyntax. -/
theorem syn_of {W : World} (h : laidMetH Tryd.prog Rows.fnExactParseMessageRow.laid W) : ∃ v, W.cell? ⟨5, 0, none⟩ = some v ∧ (v = .nilIface ∨ ∃ t u, v = .iface t u) := by
  have h2 := laidMetH.filter (fun x => x.1 == "strconv.ErrSyntax") h
  rw [show Rows.fnExactParseMessageRow.laid.filter (fun x => x.1 == "strconv.ErrSyntax") = [("strconv.ErrSyntax", Rows.laid_strconv_ErrSyntax)] by kernel_rfl] at h2
  rw [MakeChecks.laidMetH_plain _ _ _ (by kernel_rfl)] at h2
  obtain ⟨ps, ⟨g, t, cs, fuel, p, q, hg, ht, hv, hd, _, _⟩, _, _⟩ := h2
  obtain rfl := Option.some.inj ((show Tryd.prog.globalNamed "strconv.ErrSyntax" = some 5 by kernel_rfl).symm.trans hg)
  obtain rfl := Option.some.inj ((show (Tryd.prog.globals[5]?).map (·.type) = some 62 by kernel_rfl).symm.trans ht)
  obtain ⟨v, e, hv2⟩ := trod_iface_inv Tryd.underlying62 hd
  refine ⟨v, ?_, hv2⟩
  have h3 := World.var?_cell hg hv 0
  rw [h3, ← Array.getElem?_toList, e]
  rfl
theorem door_of {W : World} (h : laidMetH Tryd.prog Rows.fnExactParseMessageRow.laid W) (hs : W.ShapedOpen Tryd.prog) : DoorW W where
  tab := tab_of h
  max := Go.Proofs.cell_of_shapedOpen_int (zero := #[.int .i64 0]) (t := 3) hs (of_decide_eq_true (by kernel_rfl)) (by kernel_rfl) rfl (by kernel_rfl) (by kernel_rfl) Tryd.underlying3
  syn := syn_of h
set_option maxRecDepth 100000 in
theorem lifted (os : Os) (started : os.Started) (H : Type) (enc : TypeId × Value → H) :
    ReturnsInHanded {} Tryd.checked os 4 .any (fun w args => (Rows.fnExactParseMessageSpec.pre enc Tryd.prog Tryd.f4 [] false w args ∧ laidMetH Tryd.prog Rows.fnExactParseMessageRow.laid w) ∧ sizedMet enc Tryd.prog Tryd.f4 (OpenSpec.ofChange Rows.fnExactParseMessageSpec) false w args)
      (Rows.fnExactParseMessageSpec.post enc Tryd.prog Tryd.f4 false true false false) := by
  refine returnsInHanded_of_change_shape (C := Tryd.checked) (X := fun w _ => laidMetH Tryd.prog Rows.fnExactParseMessageRow.laid w) (fun _ _ _ hh h => h.of_heap hh) law_own started (by kernel_rfl) Tryd.func4
    (ChangeSpec.witness_shaped (enc := enc) (C := Tryd.checked) (os := os) (X := fun w _ => laidMetH Tryd.prog Rows.fnExactParseMessageRow.laid w) false (World.laidAll Tryd.prog os Rows.fnExactParseMessageRow.laid) #[.string ⟨#[]⟩] 8 (World.laidAll_os _ _ _)
      (World.shaped_of_ZipB (by kernel_rfl) (by kernel_rfl)) (by kernel_rfl) (by kernel_rfl) (by kernel_rfl)
      (by rw [MakeChecks.laidMetH_plain _ _ _ (by kernel_rfl)]; exact laidMet_laidAll _ (by kernel_rfl) (by kernel_rfl))) ?_
  intro W base args ds gs before hval0 hW hwt0 hL hS
  have hval : ∀ (j : Nat) t v, Tryd.f4.params[j]? = some t → args[j]? = some v → Value.okWide Tryd.prog W .any base t v := hval0
  have hW' : DataW.Whole enc Tryd.prog Tryd.f4.params.toList Rows.fnExactParseMessageSpec.vars false W args.toList ds gs before := hW
  obtain ⟨p, q, hA0, hV, rfl, hfz, hnd⟩ := hW
  have hA : DataW.TrodAll enc Tryd.prog W 0 (fun _ => true) true Tryd.f4.params.toList args.toList ds p := hA0
  rw [Tryd.params4] at hA hval
  obtain ⟨v0, d0, rfl, rfl, h0⟩ := trodAll_one hA
  obtain ⟨s, rfl, rfl, rfl, _⟩ := ChangeMaps.open_string Tryd.underlying9 (hval 0 9 v0 rfl rfl) h0
  have e0 : (Value.string s) = strV s.data.toList := by simp [strV]
  rw [e0]
  rw [e0] at hW'
  refine (FnExactParseMessage_spec (door_of hL hS) (words_of hL)).mono fun e W' ⟨he, hb⟩ => ?_
  exact ⟨_, he, law_post_var law_laid rfl (by kernel_rfl) Tryd.underlying4 (by kernel_rfl) (show Tryd.prog.globalNamed "loop.example/g00924/impl.reportWords" = some 0 by kernel_rfl) (t0 := 47) (by kernel_rfl) (by kernel_rfl) (fun ds d hl => by match ds, hl with | [x0], _ => rfl) rfl hW' hb⟩
theorem fnExactParseMessage_holds : Rows.FnExactParseMessageSaid :=
  OpenClaim.holds_of_wide 4 Tryd.f4 rfl rfl rfl rfl rfl rfl rfl ⟨rfl, rfl, rfl, rfl, rfl⟩ rfl rfl rfl rfl rfl (by kernel_rfl) Tryd.func4 (by kernel_rfl)
    (of_decide_eq_true (by kernel_rfl)) (by unfold Func.isWrapper; first | (rw [if_pos (by decide +kernel)]; kernel_rfl) | (rw [if_neg (by decide +kernel)]; exact ⟨rfl, rfl⟩))
    (fun os started H enc _ => lifted os started H enc)
theorem fnExactParseMessageCard_holds : Rows.FnExactParseMessageCardSaid :=
  Claim7.holds_tied_plain_at .later [] [.data, .data, .data, .data, .sentinel, .sentinel, .widerDeep, .pinned] true (true, "38aaf2fedfbddf007f4b6b5dc82464ac8a28f6a96871618f9759420f6975e03c") true
    fnExactParseMessage_holds (fun _ h => by cases h) (by kernel_rfl) (fun _ h => by cases h) fnExactParseMessage_row_tie rfl ⟨rfl, rfl⟩ (by kernel_rfl) rfl
    (fun f fn hf hfn => by
      obtain rfl : f = 4 := Option.some.inj ((show Tryd.prog.funcNamed "loop.example/g00924/laws.FnExactParseMessage" = some 4 by kernel_rfl).symm.trans hf) |>.symm
      obtain rfl : fn = Tryd.f4 := (Option.some.inj (Tryd.func4.symm.trans hfn)).symm
      exact ⟨by kernel_rfl, fun j t ht => by
        rw [Tryd.params4] at ht
        have hm : t ∈ [9] := by simpa using Array.mem_of_getElem? ht
        have hall : ([9].all fun u => !Tryd.prog.wantsStandIn u) = true := by kernel_rfl
        exact (show Tryd.prog.wantsStandIn t = false by simpa using List.all_eq_true.1 hall t hm)⟩)
    (by kernel_rfl)

end Go.Proofs.YtlpgcbkialcjcaaDoor
