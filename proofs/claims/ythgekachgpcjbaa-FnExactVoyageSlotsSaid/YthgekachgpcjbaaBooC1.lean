/- The law FnExactAreBookings returns true at every input, and what it was handed reads as before. Conditions: none. -/
import Derived.Test.YthgekachgpcjbaaRows
import Derived.Test.YthgekachgpcjbaaLaw
import Derived.Test.YthgekachgpcjbaaBoo2
namespace Go.Proofs.Ythgekachgpcjbaa
open Go.ChangeShapes Go.WideShapes Go.ChangeAt Go.RowKit
set_option maxRecDepth 100000
theorem law_own : ownKnob Try.prog.godebug = none := by kernel_rfl
theorem law_laid : laidOutB Try.prog = true := by kernel_rfl
theorem Booking.dec {H : Type} {enc : TypeId × Value → H} {W : World} (n : Nat) (cs : List Value) (x : DataW H × List MemPlace) (hl : cs.length = 4) (h : DataW.trod enc Try.prog W 0 (fun _ => true) true n 66 cs = some x) : ∃ a : Booking, cs = a.enc := by
  obtain ⟨v0, h0, _⟩ := trod_fieldI 0 Try.underlying66 rfl Try.underlying3 (by kernel_rfl) h
  obtain ⟨v1, h1, _⟩ := trod_fieldI 1 Try.underlying66 rfl Try.underlying3 (by kernel_rfl) h
  obtain ⟨v2, h2, _⟩ := trod_fieldI 2 Try.underlying66 rfl Try.underlying3 (by kernel_rfl) h
  obtain ⟨v3, h3, _⟩ := trod_fieldI 3 Try.underlying66 rfl Try.underlying3 (by kernel_rfl) h
  match cs, hl with
  | [c0, c1, c2, c3], _ =>
    obtain rfl : c0 = _ := Option.some.inj h0
    obtain rfl : c1 = _ := Option.some.inj h1
    obtain rfl : c2 = _ := Option.some.inj h2
    obtain rfl : c3 = _ := Option.some.inj h3
    exact ⟨⟨v0, v1, v2, v3⟩, rfl⟩

set_option maxRecDepth 100000 in
theorem fnExactAreBookings_lifted (os : Os) (started : os.Started) (H : Type) (enc : TypeId × Value → H) :
    ReturnsInHanded {} Try.checked os 3 .any (Rows.fnExactAreBookingsSpec.pre6 enc Try.prog Try.f3 Rows.fnExactAreBookingsRow.domain false) (Rows.fnExactAreBookingsSpec.post enc Try.prog Try.f3 false true false false) := by
  refine returnsInHanded_of_change_sized (C := Try.checked) law_own started (by kernel_rfl) Try.func3
    (ChangeSpec.witness6 (enc := enc) (C := Try.checked) false ⟨#[], #[.int .i64 0, .slice none 0 0], []⟩ 8 (by kernel_rfl) (by kernel_rfl) (by kernel_rfl) (by kernel_rfl)) ?_
  intro W base args ds gs before hval0 hW hcnd hwt0 _
  have hval : ∀ (j : Nat) t v, Try.f3.params[j]? = some t → args[j]? = some v → Value.okWide Try.prog W .any base t v := hval0
  have hW' : DataW.Whole enc Try.prog Try.f3.params.toList [] false W args.toList ds gs before := hW
  obtain ⟨p, q, hA0, hV, rfl, hfz, hnd⟩ := hW
  have hA : DataW.TrodAll enc Try.prog W 0 (fun _ => true) true Try.f3.params.toList args.toList ds p := hA0
  obtain ⟨rfl, rfl⟩ := trodVars_none hV
  have hwt : (DataW.weightsEach Try.prog (Try.f3.params.toList ++ []) (ds ++ [])).all (· ≤ reachBytes) = true := hwt0
  rw [List.append_nil, List.append_nil] at hwt
  rw [Try.params3] at hA hval hwt
  obtain ⟨v0, v1, d0, d1, p0, p1, rfl, rfl, rfl, h0, h1⟩ := trodAll_two hA
  obtain ⟨n0, rfl, rfl, rfl, w0⟩ := open_int Try.underlying3 (hval 0 3 v0 rfl rfl) h0
  obtain ⟨A1, c1, l1, rfl, s1, e1⟩ := open_list (el := Booking.enc) (sz := 4) Try.underlying22 (by kernel_rfl) (by decide) Booking.len (fun n cs x => Booking.dec n cs x) (hval 1 22 v1 rfl rfl) h1
  have b1 : 32 * l1.length ≤ 281474976710656 := by
    rcases e1 with ⟨_, rfl⟩ | ⟨es, sp, rfl, hlen⟩
    · simp
    · have := weight_at (by_ := 32) (i := 1) Try.underlying22 (by kernel_rfl) rfl rfl hwt
      omega
  refine (FnExactAreBookings_spec s1 b1).mono fun e W' ⟨he, hb⟩ => ?_
  exact ⟨_, he, law_post law_laid rfl (by kernel_rfl) Try.underlying4 (by kernel_rfl) (fun ds hl => by match ds, hl with | [x0, x1], _ => rfl) rfl hW' hb⟩
theorem fnExactAreBookings_holds : Rows.FnExactAreBookingsSaid :=
  OpenClaim.holds_of_wide 3 Try.f3 rfl rfl rfl rfl rfl rfl rfl ⟨rfl, rfl, rfl, rfl, rfl⟩ rfl rfl rfl rfl rfl (by kernel_rfl) Try.func3 (by kernel_rfl)
    (of_decide_eq_true (by kernel_rfl)) (by unfold Func.isWrapper; rw [if_neg (by decide +kernel)]; exact ⟨rfl, rfl⟩)
    (fun os started H enc _ => fnExactAreBookings_lifted os started H enc)

end Go.Proofs.Ythgekachgpcjbaa
