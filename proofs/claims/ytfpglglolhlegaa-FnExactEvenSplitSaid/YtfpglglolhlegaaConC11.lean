/- The law FnExactEvenSplit returns true at every input, and what it was handed reads as before. Conditions: none. -/
import Derived.Test.YtfpglglolhlegaaConC1
import Derived.Test.YtfpglglolhlegaaConF
namespace Go.Proofs.Ytfpglglolhlegaa
open Go.ChangeShapes Go.WideShapes Go.ChangeAt Go.RowKit
set_option maxRecDepth 100000
set_option maxRecDepth 100000 in
theorem fnExactEvenSplit_lifted (os : Os) (started : os.Started) (H : Type) (enc : TypeId × Value → H) :
    ReturnsInHanded {} Try.checked os 13 .any (Rows.fnExactEvenSplitSpec.pre6 enc Try.prog Try.f13 Rows.fnExactEvenSplitRow.domain false) (Rows.fnExactEvenSplitSpec.post enc Try.prog Try.f13 false true false false) := by
  refine returnsInHanded_of_change_sized (C := Try.checked) law_own started (by kernel_rfl) Try.func13
    (ChangeSpec.witness6 (enc := enc) (C := Try.checked) false ⟨#[], #[.agg #[.int .i64 0, .slice none 0 0], .int .i64 0], []⟩ 8 (by kernel_rfl) (by kernel_rfl) (by kernel_rfl) (by kernel_rfl)) ?_
  intro W base args ds gs before hval0 hW hcnd hwt0 _
  have hval : ∀ (j : Nat) t v, Try.f13.params[j]? = some t → args[j]? = some v → Value.okWide Try.prog W .any base t v := hval0
  have hW' : DataW.Whole enc Try.prog Try.f13.params.toList [] false W args.toList ds gs before := hW
  obtain ⟨p, q, hA0, hV, rfl, hfz, hnd⟩ := hW
  have hA : DataW.TrodAll enc Try.prog W 0 (fun _ => true) true Try.f13.params.toList args.toList ds p := hA0
  obtain ⟨rfl, rfl⟩ := trodVars_none hV
  have hwt : (DataW.weightsEach Try.prog (Try.f13.params.toList ++ []) (ds ++ [])).all (· ≤ reachBytes) = true := hwt0
  rw [List.append_nil, List.append_nil] at hwt
  rw [Try.params13] at hA hval hwt
  obtain ⟨v0, v1, d0, d1, p0, p1, rfl, rfl, rfl, h0, h1⟩ := trodAll_two hA
  obtain ⟨A0, c0, q0, l0, rfl, s0, ds0, rfl, e0⟩ := open_convoy (hval 0 24 v0 rfl rfl) h0
  have b0 : 8 * l0.length ≤ 281474976710656 := by
    rcases e0 with ⟨_, rfl⟩ | ⟨es, sp, he1, hlen⟩
    · simp
    · have := weight_at (by_ := 8) (i := 1) Try.underlying22 (by kernel_rfl) rfl he1 (weight_in (i := 0) Try.underlying24 rfl rfl hwt)
      omega
  obtain ⟨n1, rfl, rfl, rfl, w1⟩ := open_int Try.underlying3 (hval 1 3 v1 rfl rfl) h1
  refine (FnExactEvenSplit_spec s0 b0).mono fun e W' ⟨he, hb⟩ => ?_
  exact ⟨_, he, law_post law_laid rfl (by kernel_rfl) Try.underlying4 (by kernel_rfl) (fun ds hl => by match ds, hl with | [x0, x1], _ => rfl) rfl hW' hb⟩
theorem fnExactEvenSplit_holds : Rows.FnExactEvenSplitSaid :=
  OpenClaim.holds_of_wide 13 Try.f13 rfl rfl rfl rfl rfl rfl rfl ⟨rfl, rfl, rfl, rfl, rfl⟩ rfl rfl rfl rfl rfl (by kernel_rfl) Try.func13 (by kernel_rfl)
    (of_decide_eq_true (by kernel_rfl)) (by unfold Func.isWrapper; rw [if_neg (by decide +kernel)]; exact ⟨rfl, rfl⟩)
    (fun os started H enc _ => fnExactEvenSplit_lifted os started H enc)

end Go.Proofs.Ytfpglglolhlegaa
