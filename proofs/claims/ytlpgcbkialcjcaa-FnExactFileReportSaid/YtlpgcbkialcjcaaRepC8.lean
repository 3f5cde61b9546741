/- The law FnExactFileReport returns true at every input, and what it was handed reads as before. Conditions: none. -/
import Derived.Test.YtlpgcbkialcjcaaRepC1
import Derived.Test.YtlpgcbkialcjcaaRepA
namespace Go.Proofs.Ytlpgcbkialcjcaa
open Go.ChangeShapes Go.WideShapes Go.ChangeAt Go.RowKit
set_option maxRecDepth 100000
theorem Report.open_ {H : Type} {enc : TypeId × Value → H} {W : World} {base : Nat} {v : Value} {d : DataW H} {q : List MemPlace} (hv : Value.okWide Try.prog W .any base 23 v) (h : DataW.Trod enc Try.prog W 0 (fun _ => true) true 23 v d q) : ∃ a : Report, v = .agg a.enc.toArray := by
  obtain ⟨cs, rfl, hcs⟩ := okWide_struct Try.underlying23 hv
  obtain ⟨fuel, hf⟩ := h
  have hsz : cs.size = 6 := hcs.trans (by kernel_rfl)
  obtain ⟨a, ha⟩ := Report.dec fuel cs.toList _ (by simpa using hsz) hf
  exact ⟨a, by congr 1; rw [← ha]⟩

set_option maxRecDepth 100000 in
theorem fnExactFileReport_lifted (os : Os) (started : os.Started) (H : Type) (enc : TypeId × Value → H) :
    ReturnsInHanded {} Try.checked os 10 .any (Rows.fnExactFileReportSpec.pre6 enc Try.prog Try.f10 Rows.fnExactFileReportRow.domain false) (Rows.fnExactFileReportSpec.post enc Try.prog Try.f10 false true false false) := by
  refine returnsInHanded_of_change_sized (C := Try.checked) law_own started (by kernel_rfl) Try.func10
    (ChangeSpec.witness6 (enc := enc) (C := Try.checked) false ⟨#[], #[.slice none 0 0, .agg #[.int .i64 0, .int .i64 0, .int .i64 0, .int .i64 0, .int .i64 0, .int .i64 0]], []⟩ 8 (by kernel_rfl) (by kernel_rfl) (by kernel_rfl) (by kernel_rfl)) ?_
  intro W base args ds gs before hval0 hW hcnd hwt0 _
  have hval : ∀ (j : Nat) t v, Try.f10.params[j]? = some t → args[j]? = some v → Value.okWide Try.prog W .any base t v := hval0
  have hW' : DataW.Whole enc Try.prog Try.f10.params.toList [] false W args.toList ds gs before := hW
  obtain ⟨p, q, hA0, hV, rfl, hfz, hnd⟩ := hW
  have hA : DataW.TrodAll enc Try.prog W 0 (fun _ => true) true Try.f10.params.toList args.toList ds p := hA0
  obtain ⟨rfl, rfl⟩ := trodVars_none hV
  have hwt : (DataW.weightsEach Try.prog (Try.f10.params.toList ++ []) (ds ++ [])).all (· ≤ reachBytes) = true := hwt0
  rw [List.append_nil, List.append_nil] at hwt
  rw [Try.params10] at hA hval hwt
  obtain ⟨v0, v1, d0, d1, p0, p1, rfl, rfl, rfl, h0, h1⟩ := trodAll_two hA
  obtain ⟨A0, c0, l0, rfl, s0, e0⟩ := open_list (el := Report.enc) (sz := 6) Try.underlying28 (by kernel_rfl) (by decide) Report.len (fun n cs x => Report.dec n cs x) (hval 0 28 v0 rfl rfl) h0
  obtain ⟨q1, rfl⟩ := Report.open_ (hval 1 23 v1 rfl rfl) h1
  have b0 : 48 * l0.length ≤ 281474976710656 := by
    rcases e0 with ⟨_, rfl⟩ | ⟨es, sp, rfl, hlen⟩
    · simp
    · have := weight_at (by_ := 48) (i := 0) Try.underlying28 (by kernel_rfl) rfl rfl hwt
      omega
  refine (FnExactFileReport_spec s0 b0).mono fun e W' ⟨he, hb⟩ => ?_
  exact ⟨_, he, law_post law_laid rfl (by kernel_rfl) Try.underlying4 (by kernel_rfl) (fun ds hl => by match ds, hl with | [x0, x1], _ => rfl) rfl hW' hb⟩
theorem fnExactFileReport_holds : Rows.FnExactFileReportSaid :=
  OpenClaim.holds_of_wide 10 Try.f10 rfl rfl rfl rfl rfl rfl rfl ⟨rfl, rfl, rfl, rfl, rfl⟩ rfl rfl rfl rfl rfl (by kernel_rfl) Try.func10 (by kernel_rfl)
    (of_decide_eq_true (by kernel_rfl)) (by unfold Func.isWrapper; rw [if_neg (by decide +kernel)]; exact ⟨rfl, rfl⟩)
    (fun os started H enc _ => fnExactFileReport_lifted os started H enc)

end Go.Proofs.Ytlpgcbkialcjcaa
