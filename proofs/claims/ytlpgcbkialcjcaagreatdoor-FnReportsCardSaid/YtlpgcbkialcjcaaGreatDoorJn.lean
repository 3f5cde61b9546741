/- Roads that part and meet again. Conditions: none; proved of any program. -/
import Derived.Test.YtlpgcbkialcjcaaGreatDoorTb
namespace Go.Proofs.YtlpgcbkialcjcaaGreatDoor
open Go.RowKit
section
variable {P : Program} {n : Nat} {w0 : World} {F : List Nat} {H : List HEnt} {L : Env}
theorem Run.more {c : Code} {L' : Env} {H' : List HEnt} {Q : Exit → Env → List HEnt → Prop} (hL : SubE L' L) (hH : H'.Sublist H) (h : Run P n w0 F c L' H' Q) : Run P n w0 F c L H Q := fun a w ha hw => h a w (ha.sub hL) (hw.sub hH)
/-- What comes first is walked up to a state; what comes behind, out of it. -/
theorem Run.seqMid {S : Type} {x y : Code} {Q : Exit → Env → List HEnt → Prop} (inv : S → Prop) (EL : S → Env) (HL : S → List HEnt)
    (h1 : Run P n w0 F x L H (thenQ (fun L' H' => ∃ s, inv s ∧ SubE (EL s) L' ∧ (HL s).Sublist H') Q)) (h2 : ∀ s, inv s → Run P n w0 F y (EL s) (HL s) Q) : Run P n w0 F (.seq x y) L H Q :=
  Run.seq fun a w ha hw => Code.wp_mono (fun e a' w' ⟨L', H', h3, h4, h5⟩ => ⟨L', H', h3, h4, by
    cases e <;> first
      | exact h5
      | exact (let ⟨s, h6, h7, h8⟩ := h5; Run.more h7 h8 (h2 s h6))⟩) (h1 a w ha hw)
end
end Go.Proofs.YtlpgcbkialcjcaaGreatDoor
