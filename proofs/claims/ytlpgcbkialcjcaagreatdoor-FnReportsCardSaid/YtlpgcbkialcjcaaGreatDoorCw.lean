/- A call that is lent a part of the caller's own memory and hands it back turned: the frame rule. Conditions: none; proved of any program. -/
import Derived.Test.YtlpgcbkialcjcaaGreatDoorCt
namespace Go.Proofs.YtlpgcbkialcjcaaGreatDoor
open Go.RowKit
/-- The blocks of these entries. -/
def blks (E : List HEnt) : List Nat := E.flatMap fun e => e.block.toList
theorem mem_blks {E : List HEnt} {g : Nat} : g ∈ blks E ↔ ∃ e ∈ E, e.block = some g := by
  simp only [blks, List.mem_flatMap, Option.mem_toList]
/-- What a mask takes, and what it leaves. -/
def pickT {α : Type} : List Bool → List α → List α
  | true :: m, x :: l => x :: pickT m l
  | false :: m, _ :: l => pickT m l
  | _, _ => []
def pickF {α : Type} : List Bool → List α → List α
  | true :: m, _ :: l => pickF m l
  | false :: m, x :: l => x :: pickF m l
  | [], l => l
  | _, [] => []
theorem perm_pick {α : Type} : ∀ (m : List Bool) (l : List α), l.Perm (pickT m l ++ pickF m l)
  | true :: m, x :: l => List.Perm.cons x (perm_pick m l)
  | false :: m, x :: l => (List.Perm.cons x (perm_pick m l)).trans List.perm_middle.symm
  | [], l => by simp [pickT, pickF]
  | true :: m, [] => by simp [pickT, pickF]
  | false :: m, [] => by simp [pickT, pickF]
section
variable {P : Program} {n : Nat} {w0 : World} {F : List Nat} {H : List HEnt} {L : Env}
/-- A part of the caller's memory, as the callee finds it. -/
theorem HOk.lendL {w : World} {E H1 : List HEnt} (h : HOk w0 F (E ++ H1) w) : HOk w (blks E) E w :=
  ⟨Bel.refl _ _, fun e he => h.ent e (List.mem_append_left _ he), fun e he _ hg => .inr (mem_blks.2 ⟨e, he, hg⟩), (List.pairwise_append.1 h.sep).1⟩
/-- What the callee hands back, as the caller finds it. -/
theorem HOk.frame {w w' : World} {E E' H1 : List HEnt} (h : HOk w0 F (E ++ H1) w) (h' : HOk w (blks E) E' w') : HOk w0 F (E' ++ H1) w' := by
  obtain ⟨hs1, hs2, hs3⟩ := List.pairwise_append.1 h.sep
  have hE : ∀ g ∈ blks E, w0.heap.size ≤ g ∨ g ∈ F := fun g hg => by
    obtain ⟨e, he, heg⟩ := mem_blks.1 hg
    exact h.own e (List.mem_append_left _ he) g heg
  have hfar : ∀ f ∈ H1, ∀ g, f.block = some g → g ∉ blks E := fun f hf g hg hgE => by
    obtain ⟨e, he, heg⟩ := mem_blks.1 hgE
    exact hs3 e he f hf g heg hg
  have hlt : ∀ f ∈ H1, ∀ g, f.block = some g → g < w.heap.size := fun f hf g hg => (h.ent f (List.mem_append_right _ hf)).lt g hg
  refine ⟨h.bel.trans h'.bel hE, fun e he => ?_, fun e he g hg => ?_, List.pairwise_append.2 ⟨h'.sep, hs2, fun e he f hf g hg hg' => ?_⟩⟩
  · rcases List.mem_append.1 he with he | he
    · exact h'.ent e he
    · exact (h.ent e (List.mem_append_right _ he)).kept fun g hg => h'.bel.block g (hlt e he g hg) (hfar e he g hg)
  · rcases List.mem_append.1 he with he | he
    · rcases h'.own e he g hg with h1 | h1
      · exact .inl (Nat.le_trans h.le h1)
      · exact hE g h1
    · exact h.own e (List.mem_append_right _ he) g hg
  · rcases h'.own e he g hg with h1 | h1
    · have := hlt f hf g hg'
      omega
    · exact hfar f hf g hg' h1
/-- What was there when the call began, and is no part of what it was lent, reads as before. -/
theorem HOk.apartArg {w : World} {A : Option Addr} {m c sz : Nat} {xs : List Value} (h : HOk w0 F H w) (hs : Sl w0 sz A m c xs) (hF : 0 < m → (adr A).block ∉ F) {E : List HEnt} (hE : ∀ e ∈ E, e ∈ H) (hm : 0 < m) : (adr A).block ∉ blks E := fun hg => by
  obtain ⟨e, he, heg⟩ := mem_blks.1 hg
  rcases h.own e (hE e he) _ heg with h1 | h1
  · have := (hs.at_ hm).2.1
    omega
  · exact hF hm h1
/-- A call that is lent E and hands E' back. -/
def RetH {X : Type} (w : World) (E : List HEnt) (E' : X → List HEnt) (val : X → Value) (ok : X → Prop) (e : Ending) (w' : World) : Prop :=
  ∃ x, e = .returned (val x) ∧ ok x ∧ HOk w (blks E) (E' x) w'
variable {ty : TypeId} {pos : String} {aft : Array Edge} {gd : Option (Nat × Bool)} {d : Nat} {K : Env → List HEnt → Prop}
theorem One.callH {X : Type} {f : FuncId} {xs : List Operand} {vs : List Value} {ts : Array TypeId} {E H1 : List HEnt} {E' : X → List HEnt} {val : X → Value} {ok : X → Prop} (hd : Nat.blt d n = true) (hc : callable P f = true) (hargs : Evs L xs vs)
    (mask : List Bool) (hE : pickT mask H = E) (hH1 : pickF mask H = H1) (hcc : ∀ w, HOk w0 F (E ++ H1) w → Calls P f vs.toArray w (RetH w E E' val ok)) (h : ∀ x, ok x → K ((d, val x) :: L) (H1 ++ E' x)) :
    One P n w0 F ⟨some d, .call { callee := .value (.func f), args := xs.toArray, argTypes := ts }, ty, pos, aft, gd⟩ L H K :=
  have hp : H.Perm (E ++ H1) := hE ▸ hH1 ▸ perm_pick mask H
  One.call (by simpa [dstOk] using hd) hc hargs (fun w hw => hcc w (hw.perm hp)) fun _ _ _ hw ⟨x, he, hok, hw'⟩ => ⟨_, _, he, ((hw.perm hp).frame hw').perm List.perm_append_comm, h x hok⟩
/-- The same, of a function value. -/
theorem One.callVH {X : Type} {fo : Operand} {f : FuncId} {us cap : Array Value} {xs : List Operand} {vs : List Value} {ts : Array TypeId} {E H1 : List HEnt} {E' : X → List HEnt} {val : X → Value} {ok : X → Prop} (hd : Nat.blt d n = true) (hf : ev L fo = some (.func (.func f) us cap)) (hc : callable P f = true) (hargs : Evs L xs vs)
    (mask : List Bool) (hE : pickT mask H = E) (hH1 : pickF mask H = H1) (hcc : ∀ w, HOk w0 F (E ++ H1) w → Calls P f (us ++ vs.toArray ++ cap) w (RetH w E E' val ok)) (h : ∀ x, ok x → K ((d, val x) :: L) (H1 ++ E' x)) :
    One P n w0 F ⟨some d, .call { callee := .value fo, args := xs.toArray, argTypes := ts }, ty, pos, aft, gd⟩ L H K :=
  have hp : H.Perm (E ++ H1) := hE ▸ hH1 ▸ perm_pick mask H
  One.callG (by simpa [dstOk] using hd) (fun a w ha => by
    simp only [execOp, resolve, ha.ev hf, Deferred.ofValue, Sem.run_bind, Sem.run_pure, Result.andThen_ok, invoke, List.map_toArray]
    rw [show List.map (Act.eval a) xs = vs from hargs.map ha, run_callFunc hc]) (fun w hw => hcc w (hw.perm hp)) fun _ _ _ hw ⟨x, he, hok, hw'⟩ => ⟨_, _, he, ((hw.perm hp).frame hw').perm List.perm_append_comm, h x hok⟩
end
end Go.Proofs.YtlpgcbkialcjcaaGreatDoor
