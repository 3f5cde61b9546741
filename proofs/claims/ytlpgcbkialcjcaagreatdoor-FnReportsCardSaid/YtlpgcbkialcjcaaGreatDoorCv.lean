/- More ways to append: onto nothing, so many zeros. Conditions: none; proved of any program. -/
import Derived.Test.YtlpgcbkialcjcaaGreatDoorCu
import Derived.Deep.AppendSrc
import Derived.Lib.AppendZeros
import Derived.Lib.LazyBuf
namespace Go.Proofs.YtlpgcbkialcjcaaGreatDoor
open Go.RowKit
section
variable {P : Program} {n : Nat} {w0 : World} {F : List Nat} {H : List HEnt} {L : Env}
variable {dd : Option Nat} {ty : TypeId} {pos : String} {aft : Array Edge} {g : Option (Nat × Bool)} {d : Nat} {T T' : TypeId} {x y : Operand} {K : Env → List HEnt → Prop}
theorem Yv.cut00 {hi mx : Operand} {A : Option Addr} {m c sz by_ : Nat} {e : TypeId} (hT : elT P T = some (e, sz, by_)) (hx : ev L x = some (.slice A m c)) (hh : ev L hi = some (.int .i64 0)) (hm : ev L mx = some (.int .i64 0)) :
    Yv P n w0 F H L ⟨dd, .slice T x none (some hi) (some mx), ty, pos, aft, g⟩ (.slice A 0 0) := fun a w ha hw => by
  unfold elT at hT
  split at hT
  · rename_i e' he
    cases hi : P.info? e' with
    | none => simp [hi] at hT
    | some i =>
      simp [execOp, ha.ev hx, ha.ev hh, ha.ev hm, Instr.sliceAt, Instr.slice, run_underlying he, Instr.sliceBounds, Instr.sliceBound, asIntOf, sizeOf, typeInfo, hi]
  · cases hT
theorem Yv.eqNil {A : Option Addr} {m c sz by_ : Nat} {e : TypeId} (hT : elT P T = some (e, sz, by_)) (hx : ev L x = some (.slice A m c)) (hy : ev L y = some (.slice none 0 0)) : Yv P n w0 F H L ⟨dd, .binOp .eql T x y T', ty, pos, aft, g⟩ (.bool A.isNone) := fun a w ha hw => by
  obtain ⟨inf, hu, _⟩ := elT_info hT
  have e1 : binOp .eql T (.slice A m c) (.slice none 0 0) = (do pure (.bool (← Op.equal T (.slice A m c) (.slice none 0 0)))) := rfl
  have e2 : eqGuard .eql T x y (.slice A m c) (.slice none 0 0) = pure () := rfl
  simp only [execOp, ha.ev hx, ha.ev hy, e2, e1, Sem.run_bind, run_equal_slice_nil w T e A m c hu, Sem.run_pure, Result.andThen_ok]
theorem below_drewAlloc (w : World) (o : Obj) : Below w.heap.size w (w.drew.alloc o) := ⟨rfl, rfl, rfl, by simp, fun k hk => heap_alloc_old w.drew _ hk⟩
theorem row_made {w : World} {e : TypeId} {sz k : Nat} {news : List Value} {z : Value} (hz : z.cells.size = sz) (hl : news.length = k * sz) (hmx : k ≤ maxLen) :
    (HEnt.row (some ⟨w.heap.size, 0, none⟩) (grownCap w k 0 e) e sz k news).ok (w.drew.alloc (.cells (news.toArray ++ Builtin.zeroCells z.cells (grownCap w k 0 e - k)) e)) := by
  have hge : k ≤ grownCap w k 0 e := grownCap_ge w k 0 e
  refine ⟨hl, .inr ⟨w.heap.size, _, _, rfl, Nat.zero_le _, heap_alloc_new w.drew _, hge, grownCap_le_maxLen w k 0 e hmx, ?_, ?_⟩⟩
  · simp only [Array.size_append, List.size_toArray, size_zeroCells, hz, hl, ← Nat.add_mul]
    congr 1
    omega
  · simp only [Array.toList_append]
    rw [← hl]
    exact List.take_left
/-- 'append(s[:0:0], x..)': a new row, where there is something to append. -/
theorem One.appendNew {α : Type} {enc : α → List Value} {l2 : List α} {A0 A2 : Option Addr} {c2 sz by_ k : Nat} {e : TypeId} {zs : List Value} (hd : Nat.blt d n = true)
    (hT : elT P T = some (e, sz, by_)) (hz : zeroT P e = some zs) (hzl : zs.length = sz) (hx : ev L x = some (.slice A0 0 0)) (hy : ev L y = some (.slice A2 k c2)) (hr : Rd w0 F H sz A2 k c2 (l2.flatMap enc)) (h1 : ∀ x, (enc x).all Value.oneCell' = true)
    (h0 : 0 < k) (hby : k * by_ ≤ 140737488355328) (h63 : k ≤ 140737488355328) (h : ∀ A' c', K ((d, .slice A' k c') :: L) (.row A' c' e sz k (l2.flatMap enc) :: H)) :
    One P n w0 F ⟨some d, .call { callee := .builtin .append, args := #[x, y], argTypes := #[T, T] }, ty, pos, aft, g⟩ L H K := by
  refine One.mem (by simpa [dstOk] using hd) fun a w ha hw => ?_
  obtain ⟨inf, hu, hinf, hs1, hs2⟩ := elT_info hT
  obtain ⟨inf', z, hinf', hz', hzc⟩ := zero_cells hz
  rw [hinf] at hinf'
  simp only [Option.some.injEq] at hinf'
  subst hinf'
  have hsl := hr w hw
  have hall : ∀ u ∈ l2.flatMap enc, u.oneCell' = true := by
    intro u hu
    obtain ⟨q, _, hz2⟩ := List.mem_flatMap.1 hu
    exact List.all_eq_true.1 (h1 q) u hz2
  obtain ⟨hA2, hlt, hcells⟩ := hsl.at_ h0
  cases A2 with
  | none => simp at hA2
  | some ad =>
    have hsrc := Src.ofSlice (P := P) (size := inf.size) w hu ad k c2 (l2.flatMap enc) (by rw [hs1]; exact hsl.len) hcells hall
    have hcap : Builtin.nextslicecap (0 + k) 0 = k := by rw [Nat.zero_add]; exact nextslicecap_zero h0
    have hrun := run_append_grow_src (P := P) w T T ty e inf z hu hinf hz' A0 0 0 [] (by cases A0 <;> simp [Builtin.firstCells, loadCells, loadCellsFrom]) (.slice (some ad) k c2) k (l2.flatMap enc) hsrc (by omega) (by omega) (by rw [hcap, hs2]; omega)
    rw [Nat.zero_add, List.nil_append] at hrun
    refine ⟨_, _, _, ?_, hw.push (below_drewAlloc w _) (row_made (w := w) (e := e) (z := z) (by rw [hzc]; simpa using hzl) (hsl.len) (by simp only [maxLen]; omega)) (by simp [HEnt.block]), h _ _⟩
    simp only [execOp, resolve, invoke, builtin, Sem.run_bind, Sem.run_pure, Result.andThen_ok, List.map_toArray, List.map_cons, List.map_nil, ha.ev hx, ha.ev hy, hrun]
/-- 'append(nil, make([]T, n)..)': a new row of zeros. -/
theorem One.appendZ {α : Type} {enc : α → List Value} (z0 : α) {Tn : TypeId} {kn : IntKind} {sz by_ k : Nat} {e : TypeId} {zs : List Value} (hd : Nat.blt d n = true)
    (hT : elT P T = some (e, sz, by_)) (hTn : intT P Tn = some kn) (hz : zeroT P e = some zs) (hze : zs = enc z0) (henc : ∀ x, (enc x).length = sz) (hsz : 0 < sz) (hx : ev L x = some (.slice none 0 0)) (hy : ev L y = some (.int .i64 (k : Int)))
    (h0 : 0 < k) (hby : k * by_ ≤ 140737488355328) (h63 : k ≤ 140737488355328) (h : ∀ A' c', k ≤ c' → K ((d, .slice A' k c') :: L) (.row A' c' e sz k ((List.replicate k z0).flatMap enc) :: H)) :
    One P n w0 F ⟨some d, .call { callee := .builtin .append, args := #[x, y], argTypes := #[T, Tn] }, ty, pos, aft, g⟩ L H K := by
  refine One.mem (by simpa [dstOk] using hd) fun a w ha hw => ?_
  obtain ⟨inf, hu, hinf, hs1, hs2⟩ := elT_info hT
  obtain ⟨inf', z, hinf', hz', hzc⟩ := zero_cells hz
  rw [hinf] at hinf'
  simp only [Option.some.injEq] at hinf'
  subst hinf'
  have hrun := Lib.run_append_nil_zeros (P := P) w T Tn ty e inf z .i64 kn hu (intT_u hTn) hinf hz' k h0 (by omega) (by omega) (by rw [hs2]; omega)
  have hzl : (Builtin.zeroCells z.cells k).toList = (List.replicate k z0).flatMap enc := by
    rw [hzc, hze]
    have := madeCells_flat henc hsz z0 k
    rw [← this]
    simp [Builtin.zeroCells, madeCells, henc]
  have hzl2 : Builtin.zeroCells z.cells k = ((List.replicate k z0).flatMap enc).toArray := by rw [← hzl]
  rw [hzl2] at hrun
  have hlen : ((List.replicate k z0).flatMap enc).length = k * sz := by rw [flat_len henc]; simp
  refine ⟨_, _, _, ?_, hw.push (below_drewAlloc w _) (row_made (w := w) (e := e) (z := z) (by rw [hzc, hze]; simpa using henc z0) hlen (by simp only [maxLen]; omega)) (by simp [HEnt.block]), h _ _ (grownCap_ge w k 0 e)⟩
  simp only [execOp, resolve, invoke, builtin, Sem.run_bind, Sem.run_pure, Result.andThen_ok, List.map_toArray, List.map_cons, List.map_nil, ha.ev hx, ha.ev hy, hrun]
/-- Nothing: a row of it may be told. -/
theorem HOk.nilRow {w : World} {T sz : Nat} (h : HOk w0 F H w) : HOk w0 F (.row none 0 T sz 0 [] :: H) w :=
  ⟨h.bel, fun f hf => by
    rcases List.mem_cons.1 hf with rfl | hf
    · exact ⟨by simp, .inl ⟨rfl, rfl⟩⟩
    · exact h.ent f hf, fun f hf g hg => by
    rcases List.mem_cons.1 hf with rfl | hf
    · simp [HEnt.block] at hg
    · exact h.own f hf g hg, List.pairwise_cons.2 ⟨fun f _ g hg => by simp [HEnt.block] at hg, h.sep⟩⟩
theorem Run.nilRow {c : Code} {T sz : Nat} {Q : Exit → Env → List HEnt → Prop} (h : Run P n w0 F c L (.row none 0 T sz 0 [] :: H) Q) : Run P n w0 F c L H Q := fun a w ha hw => h a w ha hw.nilRow
theorem HOk.alter {w : World} {i : Nat} {e e' : HEnt} (h : HOk w0 F H w) (hi : H[i]? = some e) (hok : e'.ok w) (hb : e'.block = e.block) : HOk w0 F (H.set i e') w := by
  have hg : w.grownBy w e.block := ⟨rfl, rfl, rfl, Nat.le_refl _, fun _ _ _ => rfl⟩
  exact h.upd hi hg hok (fun g hg => .inl (hb ▸ hg))
/-- Less of a row is asked of it. -/
theorem Run.lessRow {α : Type} {enc : α → List Value} {c : Code} {i m m' cc sz : Nat} {T : TypeId} {A : Option Addr} {l : List α} {H' : List HEnt} {Q : Exit → Env → List HEnt → Prop} (henc : ∀ x, (enc x).length = sz) (hi : H[i]? = some (.row A cc T sz m (l.flatMap enc))) (hm : m' ≤ m)
    (hH : H.set i (.row A cc T sz m' ((l.take m').flatMap enc)) = H') (h : Run P n w0 F c L H' Q) : Run P n w0 F c L H Q := fun a w ha hw => by
  subst hH
  exact h a w ha (hw.alter hi (row_less' henc (hw.ent _ (List.mem_of_getElem? hi)) hm) rfl)
end
end Go.Proofs.YtlpgcbkialcjcaaGreatDoor
