/- A table of the package that is read; a row of texts. Conditions: none; proved of any program. -/
import Derived.Test.YtlpgcbkialcjcaaGreatDoorCs
namespace Go.Proofs.YtlpgcbkialcjcaaGreatDoor
open Go.RowKit
def strC (l : List UInt8) : List Value := [strV l]
theorem strC_len (l : List UInt8) : (strC l).length = 1 := rfl
section
variable {P : Program} {n : Nat} {w0 : World} {F : List Nat} {H : List HEnt} {L : Env}
variable {ty : TypeId} {pos : String} {aft : Array Edge} {g : Option (Nat × Bool)} {d : Option Nat} {T T' : TypeId} {x y : Operand}
theorem Yv.idxG {g0 N k : Nat} {e : TypeId} {ix : Int} (hT : P.underlying T = some (.array N e)) (hz : layT P e = some (false, 1)) (hs : ∀ w, (sizeOf e).run P w = .ok 1 w) (hy : ev L y = some (.int .i64 ix)) (hk : ix = (k : Int)) (hkN : k < N) :
    Yv P n w0 F H L ⟨d, .indexAddr T (.global g0) y, ty, pos, aft, g⟩ (.pointer (some ⟨g0, k, none⟩)) := fun a w ha hw => by
  subst hk
  have hg : a.eval (.global g0) = .pointer (some ⟨g0, 0, none⟩) := rfl
  have hlt : (k : Int) < (N : Int) := by omega
  simp [execOp, hg, ha.ev hy, Instr.indexAt, asIntOf, run_underlying hT, Instr.sureAddr, hs, hkN, add_row]
theorem Yv.loadG {g0 k : Nat} {v : Value} (hT : layT P T = some (false, 1)) (hx : ev L x = some (.pointer (some ⟨g0, k, none⟩))) (hc : ∀ w, HOk w0 F H w → w.cell? ⟨g0, k, none⟩ = some v) : Yv P n w0 F H L ⟨d, .load T x, ty, pos, aft, g⟩ v := fun a w ha hw => by
  simp [execOp, ha.ev hx, Instr.loadAt, Instr.sureAddr, run_loadVar_scalar hT (hc w hw)]
/-- A table of the package as a row. -/
theorem Yv.cutG {g0 N : Nat} {e : TypeId} (hT : P.underlying T = some (.array N e)) (hs : ∀ w, (sizeOf e).run P w = .ok 1 w) :
    Yv P n w0 F H L ⟨d, .slice T (.global g0) none none none, ty, pos, aft, g⟩ (.slice (some ⟨g0, 0, none⟩) N N) := fun a w ha hw => by
  have hg : a.eval (.global g0) = .pointer (some ⟨g0, 0, none⟩) := rfl
  simp [execOp, hg, Instr.sliceAt, run_underlying hT, Instr.sureAddr, Instr.sliceBounds, hs, Addr.add]
/-- An error is there. -/
def isErr : Value → Bool
  | .iface _ _ => true
  | _ => false
theorem run_equal_nil {ms : Array (String × TypeId)} {w : World} {e : Value} (hT : P.underlying T = some (.interface ms)) (he : e = .nilIface ∨ ∃ t u, e = .iface t u) : (Op.equal T e .nilIface).run P w = .ok (!isErr e) w := by
  have h : ∀ d : Nat, (Op.equalIn (d + 1) T e .nilIface).run P w = .ok (!isErr e) w := fun d => by
    rcases he with rfl | ⟨t, u, rfl⟩ <;> simp [Op.equalIn, run_underlying hT, isErr]
  exact h 9999
theorem Yv.neNil {ms : Array (String × TypeId)} {e : Value} (hT : P.underlying T = some (.interface ms)) (hx : ev L x = some e) (he : e = .nilIface ∨ ∃ t u, e = .iface t u) : Yv P n w0 F H L ⟨d, .binOp .neq T x (.const .nilIface) T', ty, pos, aft, g⟩ (.bool (isErr e)) := fun a w ha hw => by
  have hc : a.eval (.const .nilIface) = .nilIface := rfl
  have e2 : eqGuard .neq T x (.const .nilIface) e .nilIface = pure () := by
    rcases he with rfl | ⟨t, u, rfl⟩
    · exact eqGuard_nil_constR ..
    · exact eqGuard_at_iface ..
  have e1 : binOp .neq T e .nilIface = (do pure (.bool (!(← Op.equal T e .nilIface)))) := by
    rcases he with rfl | ⟨t, u, rfl⟩ <;> rfl
  simp only [execOp, ha.ev hx, hc, e2, e1, Sem.run_bind, run_equal_nil hT he, Sem.run_pure, Result.andThen_ok, Bool.not_not]
theorem cell_stays {w w' : World} {H : List HEnt} {b k : Nat} {v : Value} (h : w.cell? ⟨b, k, none⟩ = some v) (hw : HOk w [] H w') : w'.cell? ⟨b, k, none⟩ = some v := by
  have hlt : b < w.heap.size := by
    rcases Nat.lt_or_ge b w.heap.size with h1 | h1
    · exact h1
    · simp [World.cell?, Array.getElem?_eq_none h1] at h
  exact (World.cell?_of_block (w := w) (hw.bel.block b hlt (by simp))).trans h
end
end Go.Proofs.YtlpgcbkialcjcaaGreatDoor
