/- The law FnExactIsUpward returns true at every input, and what it was handed reads as before. Conditions: none. -/
import Derived.Test.YthgekachgpcjbaaBooC1
import Derived.Test.YthgekachgpcjbaaBooC
namespace Go.Proofs.Ythgekachgpcjbaa
open Go.ChangeShapes Go.WideShapes Go.ChangeAt Go.RowKit
set_option maxRecDepth 100000
set_option maxRecDepth 100000 in
theorem fnExactIsUpward_lifted (os : Os) (started : os.Started) (H : Type) (enc : TypeId × Value → H) :
    ReturnsInHanded {} Try.checked os 11 .any (Rows.fnExactIsUpwardSpec.pre6 enc Try.prog Try.f11 Rows.fnExactIsUpwardRow.domain false) (Rows.fnExactIsUpwardSpec.post enc Try.prog Try.f11 false true false false) := by
  refine returnsInHanded_of_change_sized (C := Try.checked) law_own started (by kernel_rfl) Try.func11
    (ChangeSpec.witness6 (enc := enc) (C := Try.checked) false ⟨#[], #[.int .i64 0, .slice none 0 0, .int .i64 0], []⟩ 8 (by kernel_rfl) (by kernel_rfl) (by kernel_rfl) (by kernel_rfl)) ?_
  intro W base args ds gs before hval0 hW hcnd hwt0 _
  have hval : ∀ (j : Nat) t v, Try.f11.params[j]? = some t → args[j]? = some v → Value.okWide Try.prog W .any base t v := hval0
  have hW' : DataW.Whole enc Try.prog Try.f11.params.toList [] false W args.toList ds gs before := hW
  obtain ⟨p, q, hA0, hV, rfl, hfz, hnd⟩ := hW
  have hA : DataW.TrodAll enc Try.prog W 0 (fun _ => true) true Try.f11.params.toList args.toList ds p := hA0
  obtain ⟨rfl, rfl⟩ := trodVars_none hV
  have hwt : (DataW.weightsEach Try.prog (Try.f11.params.toList ++ []) (ds ++ [])).all (· ≤ reachBytes) = true := hwt0
  rw [List.append_nil, List.append_nil] at hwt
  rw [Try.params11] at hA hval hwt
  obtain ⟨v0, v1, v2, d0, d1, d2, p0, p1, p2, rfl, rfl, rfl, h0, h1, h2⟩ := trodAll_three hA
  obtain ⟨n0, rfl, rfl, rfl, w0⟩ := open_int Try.underlying3 (hval 0 3 v0 rfl rfl) h0
  obtain ⟨A1, c1, l1, rfl, s1, e1⟩ := open_list (el := Booking.enc) (sz := 4) Try.underlying22 (by kernel_rfl) (by decide) Booking.len (fun n cs x => Booking.dec n cs x) (hval 1 22 v1 rfl rfl) h1
  obtain ⟨n2, rfl, rfl, rfl, w2⟩ := open_int Try.underlying3 (hval 2 3 v2 rfl rfl) h2
  have b1 : 32 * l1.length ≤ 281474976710656 := by
    rcases e1 with ⟨_, rfl⟩ | ⟨es, sp, rfl, hlen⟩
    · simp
    · have := weight_at (by_ := 32) (i := 1) Try.underlying22 (by kernel_rfl) rfl rfl hwt
      omega
  refine (FnExactIsUpward_spec s1 b1).mono fun e W' ⟨he, hb⟩ => ?_
  exact ⟨_, he, law_post law_laid rfl (by kernel_rfl) Try.underlying4 (by kernel_rfl) (fun ds hl => by match ds, hl with | [x0, x1, x2], _ => rfl) rfl hW' hb⟩
theorem fnExactIsUpward_holds : Rows.FnExactIsUpwardSaid :=
  OpenClaim.holds_of_wide 11 Try.f11 rfl rfl rfl rfl rfl rfl rfl ⟨rfl, rfl, rfl, rfl, rfl⟩ rfl rfl rfl rfl rfl (by kernel_rfl) Try.func11 (by kernel_rfl)
    (of_decide_eq_true (by kernel_rfl)) (by unfold Func.isWrapper; rw [if_neg (by decide +kernel)]; exact ⟨rfl, rfl⟩)
    (fun os started H enc _ => fnExactIsUpward_lifted os started H enc)

end Go.Proofs.Ythgekachgpcjbaa
