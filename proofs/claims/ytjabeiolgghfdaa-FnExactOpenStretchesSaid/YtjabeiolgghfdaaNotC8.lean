/- The law FnExactOpenStretches returns true at every input, and what it was handed reads as before. Conditions: none. -/
import Derived.Test.YtjabeiolgghfdaaNotC1
import Derived.Test.YtjabeiolgghfdaaNot9
namespace Go.Proofs.Ytjabeiolgghfdaa
open Go.ChangeShapes Go.WideShapes Go.ChangeAt Go.RowKit
set_option maxRecDepth 100000
set_option maxRecDepth 100000 in
theorem fnExactOpenStretches_lifted (os : Os) (started : os.Started) (H : Type) (enc : TypeId × Value → H) :
    ReturnsInHanded {} Try.checked os 10 .any (Rows.fnExactOpenStretchesSpec.pre6 enc Try.prog Try.f10 Rows.fnExactOpenStretchesRow.domain false) (Rows.fnExactOpenStretchesSpec.post enc Try.prog Try.f10 false true false false) := by
  refine returnsInHanded_of_change_sized (C := Try.checked) law_own started (by kernel_rfl) Try.func10
    (ChangeSpec.witness6 (enc := enc) (C := Try.checked) false ⟨#[], #[.slice none 0 0, .int .i64 0], []⟩ 8 (by kernel_rfl) (by kernel_rfl) (by kernel_rfl) (by kernel_rfl)) ?_
  intro W base args ds gs before hval0 hW hcnd hwt0 _
  have hval : ∀ (j : Nat) t v, Try.f10.params[j]? = some t → args[j]? = some v → Value.okWide Try.prog W .any base t v := hval0
  have hW' : DataW.Whole enc Try.prog Try.f10.params.toList [] false W args.toList ds gs before := hW
  obtain ⟨p, q, hA0, hV, rfl, hfz, hnd⟩ := hW
  have hA : DataW.TrodAll enc Try.prog W 0 (fun _ => true) true Try.f10.params.toList args.toList ds p := hA0
  obtain ⟨rfl, rfl⟩ := trodVars_none hV
  have hwt : (DataW.weightsEach Try.prog (Try.f10.params.toList ++ []) (ds ++ [])).all (· ≤ reachBytes) = true := hwt0
  rw [List.append_nil, List.append_nil] at hwt
  rw [Try.params10] at hA hval hwt
  obtain ⟨v0, v1, d0, d1, p0, p1, rfl, rfl, rfl, h0, h1⟩ := trodAll_two hA
  obtain ⟨A0, c0, l0, rfl, s0, e0⟩ := open_list (el := Notice.enc) (sz := 7) Try.underlying22 (by kernel_rfl) (by decide) Notice.len (fun n cs x => Notice.dec n cs x) (hval 0 22 v0 rfl rfl) h0
  obtain ⟨n1, rfl, rfl, rfl, w1⟩ := open_int Try.underlying3 (hval 1 3 v1 rfl rfl) h1
  have b0 : 56 * l0.length ≤ 281474976710656 := by
    rcases e0 with ⟨_, rfl⟩ | ⟨es, sp, rfl, hlen⟩
    · simp
    · have := weight_at (by_ := 56) (i := 0) Try.underlying22 (by kernel_rfl) rfl rfl hwt
      omega
  refine (FnExactOpenStretches_spec s0 b0).mono fun e W' ⟨he, hb⟩ => ?_
  exact ⟨_, he, law_post law_laid rfl (by kernel_rfl) Try.underlying4 (by kernel_rfl) (fun ds hl => by match ds, hl with | [x0, x1], _ => rfl) rfl hW' hb⟩
theorem fnExactOpenStretches_holds : Rows.FnExactOpenStretchesSaid :=
  OpenClaim.holds_of_wide 10 Try.f10 rfl rfl rfl rfl rfl rfl rfl ⟨rfl, rfl, rfl, rfl, rfl⟩ rfl rfl rfl rfl rfl (by kernel_rfl) Try.func10 (by kernel_rfl)
    (of_decide_eq_true (by kernel_rfl)) (by unfold Func.isWrapper; rw [if_neg (by decide +kernel)]; exact ⟨rfl, rfl⟩)
    (fun os started H enc _ => fnExactOpenStretches_lifted os started H enc)

end Go.Proofs.Ytjabeiolgghfdaa
