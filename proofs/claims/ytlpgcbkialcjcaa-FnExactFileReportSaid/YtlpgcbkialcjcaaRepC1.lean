/- The law FnExactIsFile returns true at every input, and what it was handed reads as before. Conditions: none. -/
import Derived.Test.YtlpgcbkialcjcaaRows
import Derived.Test.YtlpgcbkialcjcaaLaw
import Derived.Test.YtlpgcbkialcjcaaRep2
namespace Go.Proofs.Ytlpgcbkialcjcaa
open Go.ChangeShapes Go.WideShapes Go.ChangeAt Go.RowKit
set_option maxRecDepth 100000
theorem law_own : ownKnob Try.prog.godebug = none := by kernel_rfl
theorem law_laid : laidOutB Try.prog = true := by kernel_rfl
theorem Report.dec {H : Type} {enc : TypeId × Value → H} {W : World} (n : Nat) (cs : List Value) (x : DataW H × List MemPlace) (hl : cs.length = 6) (h : DataW.trod enc Try.prog W 0 (fun _ => true) true n 23 cs = some x) : ∃ a : Report, cs = a.enc := by
  obtain ⟨v0, h0, _⟩ := trod_fieldI 0 Try.underlying23 rfl Try.underlying3 (by kernel_rfl) h
  obtain ⟨v1, h1, _⟩ := trod_fieldI 1 Try.underlying23 rfl Try.underlying3 (by kernel_rfl) h
  obtain ⟨v2, h2, _⟩ := trod_fieldI 2 Try.underlying23 rfl Try.underlying3 (by kernel_rfl) h
  obtain ⟨v3, h3, _⟩ := trod_fieldI 3 Try.underlying23 rfl Try.underlying3 (by kernel_rfl) h
  obtain ⟨v4, h4, _⟩ := trod_fieldI 4 Try.underlying23 rfl Try.underlying3 (by kernel_rfl) h
  obtain ⟨v5, h5, _⟩ := trod_fieldI 5 Try.underlying23 rfl Try.underlying3 (by kernel_rfl) h
  match cs, hl with
  | [c0, c1, c2, c3, c4, c5], _ =>
    obtain rfl : c0 = _ := Option.some.inj h0
    obtain rfl : c1 = _ := Option.some.inj h1
    obtain rfl : c2 = _ := Option.some.inj h2
    obtain rfl : c3 = _ := Option.some.inj h3
    obtain rfl : c4 = _ := Option.some.inj h4
    obtain rfl : c5 = _ := Option.some.inj h5
    exact ⟨⟨v0, v1, v2, v3, v4, v5⟩, rfl⟩

set_option maxRecDepth 100000 in
theorem fnExactIsFile_lifted (os : Os) (started : os.Started) (H : Type) (enc : TypeId × Value → H) :
    ReturnsInHanded {} Try.checked os 4 .any (Rows.fnExactIsFileSpec.pre6 enc Try.prog Try.f4 Rows.fnExactIsFileRow.domain false) (Rows.fnExactIsFileSpec.post enc Try.prog Try.f4 false true false false) := by
  refine returnsInHanded_of_change_sized (C := Try.checked) law_own started (by kernel_rfl) Try.func4
    (ChangeSpec.witness6 (enc := enc) (C := Try.checked) false ⟨#[], #[.slice none 0 0], []⟩ 8 (by kernel_rfl) (by kernel_rfl) (by kernel_rfl) (by kernel_rfl)) ?_
  intro W base args ds gs before hval0 hW hcnd hwt0 _
  have hval : ∀ (j : Nat) t v, Try.f4.params[j]? = some t → args[j]? = some v → Value.okWide Try.prog W .any base t v := hval0
  have hW' : DataW.Whole enc Try.prog Try.f4.params.toList [] false W args.toList ds gs before := hW
  obtain ⟨p, q, hA0, hV, rfl, hfz, hnd⟩ := hW
  have hA : DataW.TrodAll enc Try.prog W 0 (fun _ => true) true Try.f4.params.toList args.toList ds p := hA0
  obtain ⟨rfl, rfl⟩ := trodVars_none hV
  have hwt : (DataW.weightsEach Try.prog (Try.f4.params.toList ++ []) (ds ++ [])).all (· ≤ reachBytes) = true := hwt0
  rw [List.append_nil, List.append_nil] at hwt
  rw [Try.params4] at hA hval hwt
  obtain ⟨v0, d0, rfl, rfl, h0⟩ := trodAll_one hA
  obtain ⟨A0, c0, l0, rfl, s0, e0⟩ := open_list (el := Report.enc) (sz := 6) Try.underlying28 (by kernel_rfl) (by decide) Report.len (fun n cs x => Report.dec n cs x) (hval 0 28 v0 rfl rfl) h0
  have b0 : 48 * l0.length ≤ 281474976710656 := by
    rcases e0 with ⟨_, rfl⟩ | ⟨es, sp, rfl, hlen⟩
    · simp
    · have := weight_at (by_ := 48) (i := 0) Try.underlying28 (by kernel_rfl) rfl rfl hwt
      omega
  refine (FnExactIsFile_spec s0 b0).mono fun e W' ⟨he, hb⟩ => ?_
  exact ⟨_, he, law_post law_laid rfl (by kernel_rfl) Try.underlying4 (by kernel_rfl) (fun ds hl => by match ds, hl with | [x0], _ => rfl) rfl hW' hb⟩
theorem fnExactIsFile_holds : Rows.FnExactIsFileSaid :=
  OpenClaim.holds_of_wide 4 Try.f4 rfl rfl rfl rfl rfl rfl rfl ⟨rfl, rfl, rfl, rfl, rfl⟩ rfl rfl rfl rfl rfl (by kernel_rfl) Try.func4 (by kernel_rfl)
    (of_decide_eq_true (by kernel_rfl)) (by unfold Func.isWrapper; rw [if_neg (by decide +kernel)]; exact ⟨rfl, rfl⟩)
    (fun os started H enc _ => fnExactIsFile_lifted os started H enc)

end Go.Proofs.Ytlpgcbkialcjcaa
