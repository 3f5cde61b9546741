/- The law FnNotices returns true at every input, and what it was handed reads as before; the tied card. Conditions: none. -/
import Derived.Test.YtjabeiolgghfdaaGreatDoorCards
import Derived.Test.YtjabeiolgghfdaaGreatDoorTie
import Derived.Test.YtjabeiolgghfdaaGreatDoorLaw
import Derived.Test.YtjabeiolgghfdaaGreatDoorSh
import Derived.Test.YtjabeiolgghfdaaGreatDoorZnZ
import Derived.Lib.LaidTab
import Derived.LaidMore
import Derived.LaidSub
import Derived.OpenShut
import Derived.Lay
import Derived.ChangeMaps5
import Derived.Shelf.Vars
import Derived.Stop.Joined
import Derived.SevenTiedAt
namespace Go.Proofs.YtjabeiolgghfdaaGreatDoor
open Go.ChangeShapes Go.WideShapes Go.ChangeAt Go.RowKit
set_option maxRecDepth 100000
theorem byte_dec {H : Type} {enc : TypeId × Value → H} {W : World} (n : Nat) (cs : List Value) (x : DataW H × List MemPlace) (_hl : cs.length = 1) (h : DataW.trod enc Tryz.prog W 0 (fun _ => true) true n 5 cs = some x) : ∃ a : UInt8, cs = byteC a := by
  obtain ⟨v, h1, _, hw⟩ := DataW.trod_int Tryz.underlying5 h
  simp only [Lit.wf, Bool.and_eq_true, decide_eq_true_eq] at hw
  have h2 : 0 ≤ v ∧ v ≤ 255 := by
    have e1 : IntKind.u8.min = 0 := by decide
    have e2 : IntKind.u8.max = 255 := by decide
    rw [e1, e2] at hw
    exact hw
  refine ⟨UInt8.ofNat v.toNat, ?_⟩
  rw [h1]
  simp only [byteC, UInt8.toNat_ofNat']
  congr 2
  omega

theorem law_own : ownKnob Tryz.prog.godebug = none := by kernel_rfl
theorem law_laid : laidOutB Tryz.prog = true := by kernel_rfl
/-- What the row lists of the decimal powers. -/
theorem tab_of {W : World} (h : laidMetH Tryz.prog Rows.fnNoticesRow.laid W) : Tab10 W := by
  have h2 := laidMetH.filter (fun x => x.1 == "internal/strconv.uint64pow10") h
  rw [show Rows.fnNoticesRow.laid.filter (fun x => x.1 == "internal/strconv.uint64pow10") = [("internal/strconv.uint64pow10", Lib.tabData .u64 Lib.pow10Tab)] by kernel_rfl] at h2
  rw [MakeChecks.laidMetH_plain _ _ _ (by kernel_rfl)] at h2
  exact Lib.tabIs_of_head (g := 5) (t := 121) (by kernel_rfl) (by kernel_rfl) Tryz.underlying121 Tryz.underlying46 (by kernel_rfl) (by kernel_rfl) h2
theorem trod_iface_inv {H : Type} {enc : TypeId × Value → H} {P : Program} {w : World} {base : Nat} {sp : Nat → Bool} {held : Bool} {fuel : Nat} {t : TypeId} {cs : List Value} {x : DataW H × List MemPlace} {ms : Array (String × TypeId)} (hu : P.underlying t = some (.interface ms)) (h : DataW.trod enc P w base sp held fuel t cs = some x) : ∃ v, cs = [v] ∧ (v = .nilIface ∨ ∃ a b, v = .iface a b) := by
  cases fuel with
  | zero => simp [DataW.trod] at h
  | succ f =>
    rcases cs with _ | ⟨v, _ | ⟨v2, r⟩⟩
    · simp [DataW.trod, hu] at h
    · refine ⟨v, rfl, ?_⟩
      cases v <;> first | exact .inl rfl | exact .inr ⟨_, _, rfl⟩ | (simp [DataW.trod, hu] at h)
    · simp [DataW.trod, hu] at h
/-- What the row lists of strconv.ErrSyntax. -/
theorem syn_of {W : World} (h : laidMetH Tryz.prog Rows.fnNoticesRow.laid W) : ∃ v, W.cell? ⟨3, 0, none⟩ = some v ∧ (v = .nilIface ∨ ∃ t u, v = .iface t u) := by
  have h2 := laidMetH.filter (fun x => x.1 == "strconv.ErrSyntax") h
  rw [show Rows.fnNoticesRow.laid.filter (fun x => x.1 == "strconv.ErrSyntax") = [("strconv.ErrSyntax", Rows.laid_strconv_ErrSyntax)] by kernel_rfl] at h2
  rw [MakeChecks.laidMetH_plain _ _ _ (by kernel_rfl)] at h2
  obtain ⟨ps, ⟨g, t, cs, fuel, p, q, hg, ht, hv, hd, _, _⟩, _, _⟩ := h2
  obtain rfl := Option.some.inj ((show Tryz.prog.globalNamed "strconv.ErrSyntax" = some 3 by kernel_rfl).symm.trans hg)
  obtain rfl := Option.some.inj ((show (Tryz.prog.globals[3]?).map (·.type) = some 79 by kernel_rfl).symm.trans ht)
  obtain ⟨v, e, hv2⟩ := trod_iface_inv Tryz.underlying79 hd
  refine ⟨v, ?_, hv2⟩
  have h3 := World.var?_cell hg hv 0
  rw [h3, ← Array.getElem?_toList, e]
  rfl
theorem door_of {W : World} (h : laidMetH Tryz.prog Rows.fnNoticesRow.laid W) (hs : W.ShapedOpen Tryz.prog) : DoorW W where
  tab := tab_of h
  max := Go.Proofs.cell_of_shapedOpen_int (zero := #[.int .i64 0]) (t := 3) hs (of_decide_eq_true (by kernel_rfl)) (by kernel_rfl) rfl (by kernel_rfl) (by kernel_rfl) Tryz.underlying3
  syn := syn_of h
set_option maxRecDepth 100000 in
theorem lifted (os : Os) (started : os.Started) (H : Type) (enc : TypeId × Value → H) :
    ReturnsInHanded {} Tryz.checked os 3 .any (fun w args => (Rows.fnNoticesSpec.pre enc Tryz.prog Tryz.f3 [] false w args ∧ laidMetH Tryz.prog Rows.fnNoticesRow.laid w) ∧ sizedMet enc Tryz.prog Tryz.f3 (OpenSpec.ofChange Rows.fnNoticesSpec) false w args)
      (Rows.fnNoticesSpec.post enc Tryz.prog Tryz.f3 false true false false) := by
  refine returnsInHanded_of_change_shape (C := Tryz.checked) (X := fun w _ => laidMetH Tryz.prog Rows.fnNoticesRow.laid w) (fun _ _ _ hh h => h.of_heap hh) law_own started (by kernel_rfl) Tryz.func3
    (ChangeSpec.witness_shaped (enc := enc) (C := Tryz.checked) (os := os) (X := fun w _ => laidMetH Tryz.prog Rows.fnNoticesRow.laid w) false (World.laidAll Tryz.prog os Rows.fnNoticesRow.laid) #[.slice none 0 0] 8 (World.laidAll_os _ _ _)
      (World.shaped_of_ZipB (by kernel_rfl) (by kernel_rfl)) (by kernel_rfl) (by kernel_rfl) (by kernel_rfl)
      (by rw [MakeChecks.laidMetH_plain _ _ _ (by kernel_rfl)]; exact laidMet_laidAll _ (by kernel_rfl) (by kernel_rfl))) ?_
  intro W base args ds gs before hval0 hW hwt0 hL hS
  have hval : ∀ (j : Nat) t v, Tryz.f3.params[j]? = some t → args[j]? = some v → Value.okWide Tryz.prog W .any base t v := hval0
  have hW' : DataW.Whole enc Tryz.prog Tryz.f3.params.toList [] false W args.toList ds gs before := hW
  obtain ⟨p, q, hA0, hV, rfl, hfz, hnd⟩ := hW
  have hA : DataW.TrodAll enc Tryz.prog W 0 (fun _ => true) true Tryz.f3.params.toList args.toList ds p := hA0
  obtain ⟨rfl, rfl⟩ := trodVars_none hV
  rw [Tryz.params3] at hA hval
  obtain ⟨v0, d0, rfl, rfl, h0⟩ := trodAll_one hA
  obtain ⟨A0, c0, l0, rfl, s0, e0⟩ := open_list (el := byteC) (sz := 1) Tryz.underlying22 (by kernel_rfl) (by decide) byteC_len (fun n cs x => byte_dec n cs x) (hval 0 22 v0 rfl rfl) h0
  have b0 : 1 * l0.length ≤ 281474976710656 := by
    have hwt : (DataW.weightsEach Tryz.prog (Tryz.f3.params.toList ++ Rows.fnNoticesSpec.plain.varTypes Tryz.prog) ([d0] ++ [])).all (· ≤ reachBytes) = true := hwt0
    rcases e0 with ⟨_, rfl⟩ | ⟨es, sp, rfl, hlen⟩
    · simp
    · have := weight_at (by_ := 1) (i := 0) Tryz.underlying22 (by kernel_rfl) rfl rfl hwt
      omega
  refine (FnNotices_spec (door_of hL hS) s0 b0).mono fun e W' ⟨he, hb⟩ => ?_
  exact ⟨_, he, law_post law_laid rfl (by kernel_rfl) Tryz.underlying4 (by kernel_rfl) (fun ds hl => by match ds, hl with | [x0], _ => rfl) rfl hW' hb⟩
theorem fnNotices_holds : Rows.FnNoticesSaid :=
  OpenClaim.holds_of_wide 3 Tryz.f3 rfl rfl rfl rfl rfl rfl rfl ⟨rfl, rfl, rfl, rfl, rfl⟩ rfl rfl rfl rfl rfl (by kernel_rfl) Tryz.func3 (by kernel_rfl)
    (of_decide_eq_true (by kernel_rfl)) (by unfold Func.isWrapper; first | (rw [if_pos (by decide +kernel)]; kernel_rfl) | (rw [if_neg (by decide +kernel)]; exact ⟨rfl, rfl⟩))
    (fun os started H enc _ => lifted os started H enc)
theorem fnNoticesCard_holds : Rows.FnNoticesCardSaid :=
  Claim7.holds_tied_plain_at .later [] [.data, .data, .data, .data, .sentinel, .sentinel, .pinned] true (true, "58cd4c23f1eeaade0b3cabf8c7611210795f2011c305e63edde45e85f1cbdc12") true
    fnNotices_holds (fun _ h => by cases h) (by kernel_rfl) (fun _ h => by cases h) fnNotices_row_tie rfl ⟨rfl, rfl⟩ (by kernel_rfl) rfl
    (fun f fn hf hfn => by
      obtain rfl : f = 3 := Option.some.inj ((show Tryz.prog.funcNamed "loop.example/g00924/laws.FnNotices" = some 3 by kernel_rfl).symm.trans hf) |>.symm
      obtain rfl : fn = Tryz.f3 := (Option.some.inj (Tryz.func3.symm.trans hfn)).symm
      exact ⟨by kernel_rfl, fun j t ht => by
        rw [Tryz.params3] at ht
        have hm : t ∈ [22] := by simpa using Array.mem_of_getElem? ht
        have hall : ([22].all fun u => !Tryz.prog.wantsStandIn u) = true := by kernel_rfl
        exact (show Tryz.prog.wantsStandIn t = false by simpa using List.all_eq_true.1 hall t hm)⟩)
    (by kernel_rfl)

end Go.Proofs.YtjabeiolgghfdaaGreatDoor
