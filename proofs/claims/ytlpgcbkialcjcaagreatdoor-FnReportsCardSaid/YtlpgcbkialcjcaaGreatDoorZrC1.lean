/- The law FnReports returns true at every input, and what it was handed reads as before; the tied card. Conditions: none. -/
import Derived.Test.YtlpgcbkialcjcaaGreatDoorCards
import Derived.Test.YtlpgcbkialcjcaaGreatDoorTie
import Derived.Test.YtlpgcbkialcjcaaGreatDoorLaw
import Derived.Test.YtlpgcbkialcjcaaGreatDoorSh
import Derived.Test.YtlpgcbkialcjcaaGreatDoorZrZ
import Derived.Lib.LaidTab
import Derived.LaidMore
import Derived.LaidSub
import Derived.OpenShut
import Derived.ChangeVars
import Derived.Lay
import Derived.ChangeMaps5
import Derived.Shelf.Vars
import Derived.Stop.Joined
import Derived.SevenTiedAt
namespace Go.Proofs.YtlpgcbkialcjcaaGreatDoor
open Go.ChangeShapes Go.WideShapes Go.ChangeAt Go.RowKit
set_option maxRecDepth 100000
/-- From the contract of a law to its row, where the row names a variable besides. -/
theorem law_post_var {H : Type} {enc : TypeId × Value → H} {P : Program} {f : Func} {s : ChangeSpec} {nm : String} {apart fresh handsOn : Bool} {W W' : World} {args : Array Value} {ds gs : List (DataW H)} {before : List MemPlace} {tb g0 t0 : TypeId} (hl : laidOutB P = true) (hvars : s.vars = [nm]) (hty : f.resultTypes = #[tb]) (htb : P.underlying tb = some .bool)
    (hp : readAll P f.params.toList = true) (hg0 : P.globalNamed nm = some g0) (ht0 : (P.globals[g0]?).map (·.type) = some t0) (hr0 : readAll P [t0] = true)
    (hfn : ∀ (ds : List (DataW H)) (d : DataW H), ds.length = f.params.size → s.fn H (ds ++ [d]) = { results := [.lit (.bool true)], args := ds, vars := [d] })
    (hlen : ds.length = f.params.size) (hW : DataW.Whole enc P f.params.toList s.vars apart W args.toList ds gs before) (hb : Below W.heap.size W W') : s.post enc P f apart fresh handsOn false W args (.bool true) W' := by
  have hW' := hW
  obtain ⟨p, q, hA, hV, rfl, hfz, hnd⟩ := hW
  rw [hvars] at hV
  obtain ⟨g, t, cs, fuel, d, p0, rfl, h1, h2, h3, h4, rfl⟩ := trodVars_one hV
  obtain rfl := Option.some.inj (hg0.symm.trans h1)
  obtain rfl := Option.some.inj (ht0.symm.trans h2)
  have hlt : ∀ x ∈ p, x.block < W.heap.size := fun x hx => hW'.lt x (by simp [hx])
  have hold : ∀ x ∈ p, (fun b => decide (b < W.heap.size)) x.block = true := fun x hx => by simpa using hlt x hx
  have hlt2 : ∀ x ∈ p0, x.block < W.heap.size := fun x hx => hW'.lt x (by simp [hx])
  have hold2 : ∀ x ∈ p0, (fun b => decide (b < W.heap.size)) x.block = true := fun x hx => by simpa using hlt2 x hx
  have hf := hfn ds d hlen
  have h3' : W'.var? P nm = some cs := by
    simp only [World.var?, hg0, Option.bind_some] at h3 ⊢
    have hgl : g0 < W.heap.size := by
      rcases Nat.lt_or_ge g0 W.heap.size with h' | h'
      · exact h'
      · rw [Array.getElem?_eq_none h'] at h3; simp at h3
    rw [hb.block g0 hgl]
    exact h3
  simp only [readAll, List.all_cons, List.all_nil, Bool.and_eq_true, Bool.and_true] at hr0
  obtain ⟨fuel', h4'⟩ : DataW.Trod enc P W' 0 (fun b => decide (b < W.heap.size)) true t0 (.agg cs) d p0 :=
    WideElems.Trod_stays hl hr0.1 (by simpa using hr0.2) (v := .agg cs) ⟨fuel, h4⟩ (fun p hp => hb.same (hlt2 p hp)) hold2
  refine ⟨ds, [d], p ++ (MemPlace.row ⟨g0, 0, none⟩ cs.size ++ p0), [], p, MemPlace.row ⟨g0, 0, none⟩ cs.size ++ p0, hW', ?_, ?_, ?_, hb.frame _, fun h => by cases h⟩
  · rw [hf, hty]
    exact trodAll_mk1 (shut_bool htb true)
  · rw [hf]
    exact trodAll_stays hl hb hp hA hlt hold
  · rw [hvars, hf]
    exact trodVars_mk1 hg0 ht0 h3' h4'
/-- What the row lists of the words. -/
theorem words_of {W : World} (h : laidMetH Tryz.prog Rows.fnReportsRow.laid W) : Words W := by
  have h2 := laidMetH.filter (fun x => x.1 == "loop.example/g00924/impl.reportWords") h
  rw [show Rows.fnReportsRow.laid.filter (fun x => x.1 == "loop.example/g00924/impl.reportWords") = [("loop.example/g00924/impl.reportWords", Rows.laid_loop_example_g00924_impl_reportWords)] by kernel_rfl] at h2
  rw [MakeChecks.laidMetH_plain _ _ _ (by kernel_rfl)] at h2
  obtain ⟨ps, ⟨g', t', cs, fuel, p, q, hg', ht', hvar, hd, _, _⟩, _⟩ := h2
  obtain rfl := Option.some.inj ((show Tryz.prog.globalNamed "loop.example/g00924/impl.reportWords" = some 0 by kernel_rfl).symm.trans hg')
  obtain rfl := Option.some.inj ((show (Tryz.prog.globals[0]?).map (·.type) = some 55 by kernel_rfl).symm.trans ht')
  obtain ⟨xs, m, rfl, hx, hlen, hn, hel⟩ := DataW.trod_array Tryz.underlying55 hd
  have c9 : Tryz.prog.cellsOf 9 = 1 := by kernel_rfl
  rw [c9] at hel
  have hx1 : xs.map (·.1) = wordsL.map (fun l => (DataW.lit (.string l) : DataW Unit)) := by
    have h3 := congrArg Prod.fst hx
    simp only [Rows.laid_loop_example_g00924_impl_reportWords, DataW.agg.injEq] at h3
    exact h3.symm
  intro k hk
  have hxk : k < xs.length := by omega
  have hk' := hel k hk
  rw [List.getElem?_eq_getElem hxk] at hk'
  obtain ⟨s, e, f, _⟩ := DataW.trod_string Tryz.underlying9 hk'
  have hc : cs.toList[k]? = some (.string s) := by
    have h4 := congrArg (·[0]?) e
    simpa [List.getElem?_take, List.getElem?_drop] using h4
  have hd2 : (xs.map (·.1))[k]? = some (DataW.lit (.string s.data.toList) : DataW Unit) := by
    rw [List.getElem?_map, List.getElem?_eq_getElem hxk, Option.map_some, f]
  rw [hx1, List.getElem?_map] at hd2
  have hkl : wordsL[k]? = some (nth wordsL k) := nth_get (by simpa [wordsL] using hk)
  rw [hkl] at hd2
  simp only [Option.map_some, Option.some.injEq, DataW.lit.injEq, Lit.string.injEq] at hd2
  have h5 := World.var?_cell hg' hvar k
  rw [h5, hd2]
  simpa using hc
theorem byte_dec {H : Type} {enc : TypeId × Value → H} {W : World} (n : Nat) (cs : List Value) (x : DataW H × List MemPlace) (_hl : cs.length = 1) (h : DataW.trod enc Tryz.prog W 0 (fun _ => true) true n 5 cs = some x) : ∃ a : UInt8, cs = byteC a := by
  obtain ⟨v, h1, _, hw⟩ := DataW.trod_int Tryz.underlying5 h
  simp only [Lit.wf, Bool.and_eq_true, decide_eq_true_eq] at hw
  have h2 : 0 ≤ v ∧ v ≤ 255 := by
    have e1 : IntKind.u8.min = 0 := by decide
    have e2 : IntKind.u8.max = 255 := by decide
    rw [e1, e2] at hw
    exact hw
  refine ⟨UInt8.ofNat v.toNat, ?_⟩
  rw [h1]
  simp only [byteC, UInt8.toNat_ofNat']
  congr 2
  omega

theorem law_own : ownKnob Tryz.prog.godebug = none := by kernel_rfl
theorem law_laid : laidOutB Tryz.prog = true := by kernel_rfl
/-- What the row lists of the decimal powers. -/
theorem tab_of {W : World} (h : laidMetH Tryz.prog Rows.fnReportsRow.laid W) : Tab10 W := by
  have h2 := laidMetH.filter (fun x => x.1 == "internal/strconv.uint64pow10") h
  rw [show Rows.fnReportsRow.laid.filter (fun x => x.1 == "internal/strconv.uint64pow10") = [("internal/strconv.uint64pow10", Lib.tabData .u64 Lib.pow10Tab)] by kernel_rfl] at h2
  rw [MakeChecks.laidMetH_plain _ _ _ (by kernel_rfl)] at h2
  exact Lib.tabIs_of_head (g := 4) (t := 127) (by kernel_rfl) (by kernel_rfl) Tryz.underlying127 Tryz.underlying57 (by kernel_rfl) (by kernel_rfl) h2
theorem trod_iface_inv {H : Type} {enc : TypeId × Value → H} {P : Program} {w : World} {base : Nat} {sp : Nat → Bool} {held : Bool} {fuel : Nat} {t : TypeId} {cs : List Value} {x : DataW H × List MemPlace} {ms : Array (String × TypeId)} (hu : P.underlying t = some (.interface ms)) (h : DataW.trod enc P w base sp held fuel t cs = some x) : ∃ v, cs = [v] ∧ (v = .nilIface ∨ ∃ a b, v = .iface a b) := by
  cases fuel with
  | zero => simp [DataW.trod] at h
  | succ f =>
    rcases cs with _ | ⟨v, _ | ⟨v2, r⟩⟩
    · simp [DataW.trod, hu] at h
    · refine ⟨v, rfl, ?_⟩
      cases v <;> first | exact .inl rfl | exact .inr ⟨_, _, rfl⟩ | (simp [DataW.trod, hu] at h)
    · simp [DataW.trod, hu] at h
/-- What the row lists of strconv.ErrSyntax. -/
theorem syn_of {W : World} (h : laidMetH Tryz.prog Rows.fnReportsRow.laid W) : ∃ v, W.cell? ⟨5, 0, none⟩ = some v ∧ (v = .nilIface ∨ ∃ t u, v = .iface t u) := by
  have h2 := laidMetH.filter (fun x => x.1 == "strconv.ErrSyntax") h
  rw [show Rows.fnReportsRow.laid.filter (fun x => x.1 == "strconv.ErrSyntax") = [("strconv.ErrSyntax", Rows.laid_strconv_ErrSyntax)] by kernel_rfl] at h2
  rw [MakeChecks.laidMetH_plain _ _ _ (by kernel_rfl)] at h2
  obtain ⟨ps, ⟨g, t, cs, fuel, p, q, hg, ht, hv, hd, _, _⟩, _, _⟩ := h2
  obtain rfl := Option.some.inj ((show Tryz.prog.globalNamed "strconv.ErrSyntax" = some 5 by kernel_rfl).symm.trans hg)
  obtain rfl := Option.some.inj ((show (Tryz.prog.globals[5]?).map (·.type) = some 84 by kernel_rfl).symm.trans ht)
  obtain ⟨v, e, hv2⟩ := trod_iface_inv Tryz.underlying84 hd
  refine ⟨v, ?_, hv2⟩
  have h3 := World.var?_cell hg hv 0
  rw [h3, ← Array.getElem?_toList, e]
  rfl
theorem door_of {W : World} (h : laidMetH Tryz.prog Rows.fnReportsRow.laid W) (hs : W.ShapedOpen Tryz.prog) : DoorW W where
  tab := tab_of h
  max := Go.Proofs.cell_of_shapedOpen_int (zero := #[.int .i64 0]) (t := 3) hs (of_decide_eq_true (by kernel_rfl)) (by kernel_rfl) rfl (by kernel_rfl) (by kernel_rfl) Tryz.underlying3
  syn := syn_of h
set_option maxRecDepth 100000 in
theorem lifted (os : Os) (started : os.Started) (H : Type) (enc : TypeId × Value → H) :
    ReturnsInHanded {} Tryz.checked os 3 .any (fun w args => (Rows.fnReportsSpec.pre enc Tryz.prog Tryz.f3 [] false w args ∧ laidMetH Tryz.prog Rows.fnReportsRow.laid w) ∧ sizedMet enc Tryz.prog Tryz.f3 (OpenSpec.ofChange Rows.fnReportsSpec) false w args)
      (Rows.fnReportsSpec.post enc Tryz.prog Tryz.f3 false true false false) := by
  refine returnsInHanded_of_change_shape (C := Tryz.checked) (X := fun w _ => laidMetH Tryz.prog Rows.fnReportsRow.laid w) (fun _ _ _ hh h => h.of_heap hh) law_own started (by kernel_rfl) Tryz.func3
    (ChangeSpec.witness_shaped (enc := enc) (C := Tryz.checked) (os := os) (X := fun w _ => laidMetH Tryz.prog Rows.fnReportsRow.laid w) false (World.laidAll Tryz.prog os Rows.fnReportsRow.laid) #[.slice none 0 0] 8 (World.laidAll_os _ _ _)
      (World.shaped_of_ZipB (by kernel_rfl) (by kernel_rfl)) (by kernel_rfl) (by kernel_rfl) (by kernel_rfl)
      (by rw [MakeChecks.laidMetH_plain _ _ _ (by kernel_rfl)]; exact laidMet_laidAll _ (by kernel_rfl) (by kernel_rfl))) ?_
  intro W base args ds gs before hval0 hW hwt0 hL hS
  have hval : ∀ (j : Nat) t v, Tryz.f3.params[j]? = some t → args[j]? = some v → Value.okWide Tryz.prog W .any base t v := hval0
  have hW' : DataW.Whole enc Tryz.prog Tryz.f3.params.toList Rows.fnReportsSpec.vars false W args.toList ds gs before := hW
  obtain ⟨p, q, hA0, hV, rfl, hfz, hnd⟩ := hW
  have hA : DataW.TrodAll enc Tryz.prog W 0 (fun _ => true) true Tryz.f3.params.toList args.toList ds p := hA0
  rw [Tryz.params3] at hA hval
  obtain ⟨v0, d0, rfl, rfl, h0⟩ := trodAll_one hA
  obtain ⟨A0, c0, l0, rfl, s0, e0⟩ := open_list (el := byteC) (sz := 1) Tryz.underlying22 (by kernel_rfl) (by decide) byteC_len (fun n cs x => byte_dec n cs x) (hval 0 22 v0 rfl rfl) h0
  have b0 : 1 * l0.length ≤ 281474976710656 := by
    have hwt : (DataW.weightsEach Tryz.prog (Tryz.f3.params.toList ++ Rows.fnReportsSpec.plain.varTypes Tryz.prog) ([d0] ++ gs)).all (· ≤ reachBytes) = true := hwt0
    rcases e0 with ⟨_, rfl⟩ | ⟨es, sp, rfl, hlen⟩
    · simp
    · have := weight_at (by_ := 1) (i := 0) Tryz.underlying22 (by kernel_rfl) rfl rfl hwt
      omega
  refine (FnReports_spec (door_of hL hS) (words_of hL) s0 b0).mono fun e W' ⟨he, hb⟩ => ?_
  exact ⟨_, he, law_post_var law_laid rfl (by kernel_rfl) Tryz.underlying4 (by kernel_rfl) (show Tryz.prog.globalNamed "loop.example/g00924/impl.reportWords" = some 0 by kernel_rfl) (t0 := 55) (by kernel_rfl) (by kernel_rfl) (fun ds d hl => by match ds, hl with | [x0], _ => rfl) rfl hW' hb⟩
theorem fnReports_holds : Rows.FnReportsSaid :=
  OpenClaim.holds_of_wide 3 Tryz.f3 rfl rfl rfl rfl rfl rfl rfl ⟨rfl, rfl, rfl, rfl, rfl⟩ rfl rfl rfl rfl rfl (by kernel_rfl) Tryz.func3 (by kernel_rfl)
    (of_decide_eq_true (by kernel_rfl)) (by unfold Func.isWrapper; first | (rw [if_pos (by decide +kernel)]; kernel_rfl) | (rw [if_neg (by decide +kernel)]; exact ⟨rfl, rfl⟩))
    (fun os started H enc _ => lifted os started H enc)
theorem fnReportsCard_holds : Rows.FnReportsCardSaid :=
  Claim7.holds_tied_plain_at .later [] [.data, .data, .data, .data, .sentinel, .sentinel, .widerDeep, .pinned] true (true, "8f0ec069049533ce0ba07b19417f07291f1719ef049175575327f75cda2e9de6") true
    fnReports_holds (fun _ h => by cases h) (by kernel_rfl) (fun _ h => by cases h) fnReports_row_tie rfl ⟨rfl, rfl⟩ (by kernel_rfl) rfl
    (fun f fn hf hfn => by
      obtain rfl : f = 3 := Option.some.inj ((show Tryz.prog.funcNamed "loop.example/g00924/laws.FnReports" = some 3 by kernel_rfl).symm.trans hf) |>.symm
      obtain rfl : fn = Tryz.f3 := (Option.some.inj (Tryz.func3.symm.trans hfn)).symm
      exact ⟨by kernel_rfl, fun j t ht => by
        rw [Tryz.params3] at ht
        have hm : t ∈ [22] := by simpa using Array.mem_of_getElem? ht
        have hall : ([22].all fun u => !Tryz.prog.wantsStandIn u) = true := by kernel_rfl
        exact (show Tryz.prog.wantsStandIn t = false by simpa using List.all_eq_true.1 hall t hm)⟩)
    (by kernel_rfl)

end Go.Proofs.YtlpgcbkialcjcaaGreatDoor
