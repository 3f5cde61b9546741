/- The law of IsValidConvoy returns true at every input, and what it was handed reads as before; what a convoy is, as an argument. Conditions: none. -/
import Derived.Test.YtfpglglolhlegaaRows
import Derived.Test.YtfpglglolhlegaaLaw
import Derived.Test.YtfpglglolhlegaaCon2
namespace Go.Proofs.Ytfpglglolhlegaa
open Go.ChangeShapes Go.WideShapes Go.ChangeAt Go.RowKit
set_option maxRecDepth 100000
theorem law_own : ownKnob Try.prog.godebug = none := by kernel_rfl
theorem law_laid : laidOutB Try.prog = true := by kernel_rfl
theorem int_dec {H : Type} {enc : TypeId × Value → H} {W : World} (n : Nat) (cs : List Value) (x : DataW H × List MemPlace) (_hl : cs.length = 1) (h : DataW.trod enc Try.prog W 0 (fun _ => true) true n 3 cs = some x) : ∃ a : Int, cs = intC a := by
  obtain ⟨v, h1, _⟩ := DataW.trod_int Try.underlying3 h
  exact ⟨v, h1⟩
theorem open_convoy {H : Type} {enc : TypeId × Value → H} {W : World} {base : Nat} {v : Value} {d : DataW H} {q : List MemPlace} (hv : Value.okWide Try.prog W .any base 24 v) (h : DataW.Trod enc Try.prog W 0 (fun _ => true) true 24 v d q) :
    ∃ (A : Option Addr) (c : Nat) (p : Int) (l : List Int), v = .agg #[.int .i64 p, .slice A l.length c] ∧ Sl W 1 A l.length c (l.flatMap intC) ∧ ∃ ds, d = .agg ds ∧ (ds[1]? = some .nil ∧ l = [] ∨ ∃ es sp, ds[1]? = some (.slice es sp) ∧ es.length = l.length) := by
  obtain ⟨cs, rfl, hcs⟩ := okWide_struct Try.underlying24 hv
  obtain ⟨fuel, hf⟩ := h
  obtain ⟨p, h0, _⟩ := trod_fieldI 0 Try.underlying24 rfl Try.underlying3 (by kernel_rfl) hf
  obtain ⟨m, ys, y, h1, h2, h3⟩ := trod_fieldT 1 Try.underlying24 rfl hf
  obtain ⟨A, c, l, h4, h5, h6⟩ := list_at (el := intC) (sz := 1) Try.underlying22 (by kernel_rfl) (by decide) intC_len (fun n cs x => int_dec n cs x) h3
  have h7 := cell_of_take h4
  have hsz : cs.size = 2 := hcs.trans (by kernel_rfl)
  refine ⟨A, c, p, l, ?_, h5, ys, h1, h6.imp (fun h => ⟨by rw [h2, h.1], h.2⟩) (fun ⟨es, sp, h8, h9⟩ => ⟨es, sp, by rw [h2, h8], h9⟩)⟩
  congr 1
  apply Array.toList_inj.1
  simp only [Value.cells] at h0 h7
  match hcl : cs.toList, (by simpa using hsz : cs.toList.length = 2) with
  | [a, b], _ =>
    rw [hcl] at h0 h7
    obtain rfl : a = _ := Option.some.inj h0
    obtain rfl : b = _ := Option.some.inj h7
    rfl
set_option maxRecDepth 100000 in
theorem fnExactIsValidConvoy_lifted (os : Os) (started : os.Started) (H : Type) (enc : TypeId × Value → H) :
    ReturnsInHanded {} Try.checked os 3 .any (Rows.fnExactIsValidConvoySpec.pre6 enc Try.prog Try.f3 Rows.fnExactIsValidConvoyRow.domain false) (Rows.fnExactIsValidConvoySpec.post enc Try.prog Try.f3 false true false false) := by
  refine returnsInHanded_of_change_sized (C := Try.checked) law_own started (by kernel_rfl) Try.func3
    (ChangeSpec.witness6 (enc := enc) (C := Try.checked) false ⟨#[], #[.agg #[.int .i64 0, .slice none 0 0]], []⟩ 8 (by kernel_rfl) (by kernel_rfl) (by kernel_rfl) (by kernel_rfl)) ?_
  intro W base args ds gs before hval0 hW hcnd hwt0 _
  have hval : ∀ (j : Nat) t v, Try.f3.params[j]? = some t → args[j]? = some v → Value.okWide Try.prog W .any base t v := hval0
  have hW' : DataW.Whole enc Try.prog Try.f3.params.toList [] false W args.toList ds gs before := hW
  obtain ⟨p, q, hA0, hV, rfl, hfz, hnd⟩ := hW
  have hA : DataW.TrodAll enc Try.prog W 0 (fun _ => true) true Try.f3.params.toList args.toList ds p := hA0
  obtain ⟨rfl, rfl⟩ := trodVars_none hV
  have hwt : (DataW.weightsEach Try.prog (Try.f3.params.toList ++ []) (ds ++ [])).all (· ≤ reachBytes) = true := hwt0
  rw [List.append_nil, List.append_nil] at hwt
  rw [Try.params3] at hA hval hwt
  obtain ⟨v0, d0, rfl, rfl, h0⟩ := trodAll_one hA
  obtain ⟨A0, c0, q0, l0, rfl, s0, ds0, rfl, e0⟩ := open_convoy (hval 0 24 v0 rfl rfl) h0
  have b0 : 8 * l0.length ≤ 281474976710656 := by
    rcases e0 with ⟨_, rfl⟩ | ⟨es, sp, he1, hlen⟩
    · simp
    · have := weight_at (by_ := 8) (i := 1) Try.underlying22 (by kernel_rfl) rfl he1 (weight_in (i := 0) Try.underlying24 rfl rfl hwt)
      omega
  refine (FnExactIsValidConvoy_spec s0 b0).mono fun e W' ⟨he, hb⟩ => ?_
  exact ⟨_, he, law_post law_laid rfl (by kernel_rfl) Try.underlying4 (by kernel_rfl) (fun ds hl => by match ds, hl with | [x0], _ => rfl) rfl hW' hb⟩
theorem fnExactIsValidConvoy_holds : Rows.FnExactIsValidConvoySaid :=
  OpenClaim.holds_of_wide 3 Try.f3 rfl rfl rfl rfl rfl rfl rfl ⟨rfl, rfl, rfl, rfl, rfl⟩ rfl rfl rfl rfl rfl (by kernel_rfl) Try.func3 (by kernel_rfl)
    (of_decide_eq_true (by kernel_rfl)) (by unfold Func.isWrapper; rw [if_neg (by decide +kernel)]; exact ⟨rfl, rfl⟩)
    (fun os started H enc _ => fnExactIsValidConvoy_lifted os started H enc)

end Go.Proofs.Ytfpglglolhlegaa
