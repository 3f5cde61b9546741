/- What slices.Insert does with a row: it is shifted up, copied into new memory, lengthened. Conditions: none; proved of any program. -/
import Derived.Test.YtlpgcbkialcjcaaGreatDoorJn
import Derived.Lib.Overlaps
namespace Go.Proofs.YtlpgcbkialcjcaaGreatDoor
open Go.RowKit
section
variable {P : Program} {n : Nat} {w0 : World} {F : List Nat} {H : List HEnt} {L : Env}
/-- A write into an own row, up to a place behind its end. -/
theorem row_grow {w : World} {A : Option Addr} {c sz m m' o : Nat} {T : TypeId} {xs vs : List Value} {gg : Nat} {cur : Array Value} (hh : w.heap[gg]? = some (.cells cur T (0, 0))) (h2 : c ≤ maxLen) (h3 : cur.size = c * sz) (h4 : cur.toList.take (m * sz) = xs)
    (ho : o ≤ m * sz) (hv : o + vs.length = m' * sz) (hc : m' ≤ c) (hA : A = some ⟨gg, 0, none⟩) :
    (HEnt.row A c T sz m' (xs.take o ++ vs)).ok (w.setRow gg (cur.toList.take o ++ vs ++ cur.toList.drop (o + vs.length)).toArray) := by
  subst hA
  have hle : m' * sz ≤ c * sz := Nat.mul_le_mul_right _ hc
  have hcl : cur.toList.length = c * sz := by simpa using h3
  have hxo : xs.take o = cur.toList.take o := by rw [← h4, List.take_take, Nat.min_eq_left ho]
  have hl : (cur.toList.take o ++ vs).length = m' * sz := by simp only [List.length_append, List.length_take, hcl]; omega
  refine ⟨by rw [hxo, hl], .inr ⟨gg, c, _, rfl, Nat.zero_le _, setRow_heap w gg cur _ T _ hh, hc, h2, ?_, ?_⟩⟩
  · simp only [List.size_toArray, List.length_append, List.length_take, List.length_drop, hcl]; omega
  · rw [hxo, ← hl]
    exact List.take_left
section
variable {ty : TypeId} {pos : String} {aft : Array Edge} {g : Option (Nat × Bool)} {d : Nat} {T T' : TypeId} {x y : Operand} {K : Env → List HEnt → Prop}
/-- 'copy(s[o:..], x)' into a row of the call's own, up to a place behind its end. -/
theorem One.copyG {α : Type} {dd : Option Nat} {enc : α → List Value} {l l2 : List α} {A A2 A3 : Option Addr} {c c2 c3 sz by_ m m' o k k3 i q : Nat} {e : TypeId} {H' : List HEnt} (hd : dstOk n dd = true)
    (hT : elT P T = some (e, sz, by_)) (henc : ∀ x, (enc x).length = sz) (h1 : ∀ x, (enc x).all Value.oneCell' = true) (hx : ev L x = some (.slice A2 k c2)) (hy : ev L y = some (.slice A3 k3 c3)) (hA : A2 = A.map (·.add (o * sz)))
    (hi : H[i]? = some (.row A c e sz m (l.flatMap enc))) (hm0 : 0 < m) (hq : q = min k3 k) (hq0 : 0 < q) (hom : o ≤ m) (hm' : m' = o + q) (hmc : m' ≤ c) (hr : Rd w0 F H sz A3 q c3 (l2.flatMap enc)) (hl2 : l2.length = q)
    (hH : H.set i (.row A c e sz m' ((l.take o ++ l2).flatMap enc)) = H')
    (h : K (pushE dd (.int .i64 (q : Int)) L) H') :
    One P n w0 F ⟨dd, .call { callee := .builtin .copy, args := #[x, y], argTypes := #[T, T] }, ty, pos, aft, g⟩ L H K := by
  subst hH; subst hm'
  obtain ⟨inf, hu, hinf, hs1, hs2⟩ := elT_info hT
  refine One.mem hd fun a w ha hw => ?_
  have hb := hw.ent _ (List.mem_of_getElem? hi)
  have hsl := hr w hw
  have hmin : Nat.min k3 k = q := hq.symm
  obtain ⟨gg, cur, rfl, hh, g1, g2, g3, g4⟩ := row_form hb hm0
  subst hA
  obtain ⟨hA3, hlt, hcells⟩ := hsl.at_ hq0
  cases A3 with
  | none => simp at hA3
  | some ad =>
    have hnl : (l2.flatMap enc).length = q * sz := by rw [flat_len henc, hl2]
    have hle2 : (o + q) * sz ≤ c * sz := Nat.mul_le_mul_right _ hmc
    have hall : ∀ u ∈ l2.flatMap enc, u.oneCell' = true := by
      intro u hu
      obtain ⟨z, _, hz2⟩ := List.mem_flatMap.1 hu
      exact List.all_eq_true.1 (h1 z) u hz2
    have hst := run_storeCells_row (P := P) (o := o * sz) (vs := l2.flatMap enc) hh (by rw [hnl, g3, ← Nat.add_mul]; omega) hall
    have hfc := run_firstCells_some (P := P) w sz q ad k3 c3 (l2.flatMap enc) hnl hcells
    refine ⟨.int .i64 (q : Int), w.setRow gg (cur.toList.take (o * sz) ++ l2.flatMap enc ++ cur.toList.drop (o * sz + (l2.flatMap enc).length)).toArray, _, ?_, hw.upd hi (grownBy_setRow w gg _) (e' := .row (some ⟨gg, 0, none⟩) c e sz (o + q) ((l.take o ++ l2).flatMap enc)) ?_ (fun g hg => .inl hg), h⟩
    · have hrun : (Builtin.copy_ #[T, T] ty #[.slice (some (Addr.add ⟨gg, 0, none⟩ (o * sz))) k c2, .slice (some ad) k3 c3]).run P w = .ok (.int .i64 (q : Int)) (w.setRow gg (cur.toList.take (o * sz) ++ l2.flatMap enc ++ cur.toList.drop (o * sz + (l2.flatMap enc).length)).toArray) := by
        rw [add_row]
        simp only [Builtin.copy_, Sem.run_bind, run_underlying hu, Result.andThen_ok, sizeOf, typeInfo, run_program, hinf, hs1, Builtin.lenOf, Sem.run_pure, hmin, hfc, hst, goInt, List.getElem?_toArray, List.getElem?_cons_zero, List.getElem?_cons_succ]
      simp only [execOp, resolve, invoke, builtin, Sem.run_bind, Sem.run_pure, Result.andThen_ok, List.map_toArray, List.map_cons, List.map_nil, ha.ev hx, ha.ev hy, Option.map_some, hrun]
    · have := row_grow (o := o * sz) (m' := o + q) (vs := l2.flatMap enc) hh g2 g3 g4 (Nat.mul_le_mul_right _ hom) (by rw [hnl, ← Nat.add_mul]) hmc rfl
      rw [flat_take henc] at this
      simpa using this
/-- 'append(s[:k], make([]T, n)..)', where there is no room: a new row. -/
theorem One.appendZN {α : Type} {enc : α → List Value} (z0 : α) {l2 : List α} {A : Option Addr} {Tn : TypeId} {kn : IntKind} {iy : Int} {c sz by_ k q m' : Nat} {e : TypeId} {zs : List Value} (hd : Nat.blt d n = true)
    (hT : elT P T = some (e, sz, by_)) (hTn : intT P Tn = some kn) (hz : zeroT P e = some zs) (hze : zs = enc z0) (henc : ∀ x, (enc x).length = sz) (hsz : 0 < sz) (hx : ev L x = some (.slice A k c)) (hy : ev L y = some (.int .i64 iy)) (hiy : iy = (q : Int)) (hr : Rd w0 F H sz A k c (l2.flatMap enc))
    (h0 : 0 < q) (hroom : c < k + q) (hm' : m' = k + q) (hby : m' * by_ ≤ 140737488355328) (h63 : m' ≤ 140737488355328) (h : ∀ A' c', m' ≤ c' → K ((d, .slice A' m' c') :: L) (.row A' c' e sz m' ((l2 ++ List.replicate q z0).flatMap enc) :: H)) :
    One P n w0 F ⟨some d, .call { callee := .builtin .append, args := #[x, y], argTypes := #[T, Tn] }, ty, pos, aft, g⟩ L H K := by
  subst hm'; subst hiy
  refine One.mem (by simpa [dstOk] using hd) fun a w ha hw => ?_
  obtain ⟨inf, hu, hinf, hs1, hs2⟩ := elT_info hT
  obtain ⟨inf', z, hinf', hz', hzc⟩ := zero_cells hz
  rw [hinf] at hinf'
  simp only [Option.some.injEq] at hinf'
  subst hinf'
  have hsl := hr w hw
  have hold : (Builtin.firstCells inf.size k (.slice A k c)).run P w.drew = .ok (l2.flatMap enc).toArray w.drew := by
    rw [hs1]
    rcases Nat.eq_zero_or_pos k with hk | hk
    · subst hk
      have hl := hsl.len
      have : l2.flatMap enc = [] := List.eq_nil_of_length_eq_zero (by simpa using hl)
      rw [this]
      cases A <;> simp [Builtin.firstCells, loadCells, loadCellsFrom]
    · obtain ⟨hA, hlt, hcells⟩ := hsl.at_ hk
      cases A with
      | none => simp at hA
      | some ad => exact run_firstCells_some (P := P) w.drew sz k ad k c (l2.flatMap enc) hsl.len (fun j v hj => hcells j v hj)
  have hqn : q ≠ 0 := by omega
  have hw' : IntKind.i64.wrap (q : Int) = q := by rw [IntKind.wrap_i64]; omega
  have hn : ¬ (k + q ≤ c) := by omega
  have h63' : ¬ (9223372036854775807 < ((k : Int) + (q : Int))) := by omega
  have hfit := growslice_fits (need := k + q) (old := c) (bytes := inf.bytes) (by omega) (by rw [hs2]; exact hby)
  have h48' : ¬ (281474976710656 < Builtin.nextslicecap (k + q) c * inf.bytes) := by omega
  have hqb : q * inf.bytes ≤ (k + q) * inf.bytes := Nat.mul_le_mul_right _ (by omega)
  have h48i : ¬ (281474976710656 < (q : Int) * (inf.bytes : Int)) := by
    rw [← Int.natCast_mul]
    rw [hs2] at hqb ⊢
    omega
  have hneg : ¬ ((q : Int) < 0) := by omega
  have hns : ¬ (q * inf.size = 0) := Nat.mul_ne_zero hqn (by omega)
  have hzl : (Builtin.zeroCells z.cells q).toList = (List.replicate q z0).flatMap enc := by
    rw [hzc, hze]
    have := madeCells_flat henc hsz z0 q
    rw [← this]
    simp [Builtin.zeroCells, madeCells, henc]
  have hzl2 : Builtin.zeroCells z.cells q = ((List.replicate q z0).flatMap enc).toArray := by rw [← hzl]
  have hrun : (Builtin.append_ #[T, Tn] ty #[.slice A k c, .int .i64 (q : Int)]).run P w = .ok (.slice (some ⟨w.heap.size, 0, none⟩) (k + q) (grownCap w (k + q) c e)) (w.drew.alloc (.cells (((l2 ++ List.replicate q z0).flatMap enc).toArray ++ Builtin.zeroCells z.cells (grownCap w (k + q) c e - (k + q))) e)) := by
    simp [Builtin.append_, run_underlying hu, run_underlying (intT_u hTn), sizeOf, typeInfo, zeroValue, hinf, hz', asInt, asIntOf, hw', hn, hneg, hns, h63', h48', h48i, Question.forced, hold, newRow, grownCap, hzl2]
    congr 2
    apply Array.ext'
    simp [List.append_assoc]
  have hlen : ((l2 ++ List.replicate q z0).flatMap enc).length = (k + q) * sz := by
    have := hsl.len
    rw [flat_len henc] at this
    rw [flat_len henc, List.length_append, List.length_replicate, Nat.add_mul, Nat.add_mul, this]
  have hge : k + q ≤ grownCap w (k + q) c e := grownCap_ge w (k + q) c e
  have hzz : z.cells.size = sz := by rw [hzc, hze]; simpa using henc z0
  refine ⟨_, w.drew.alloc (.cells (((l2 ++ List.replicate q z0).flatMap enc).toArray ++ Builtin.zeroCells z.cells (grownCap w (k + q) c e - (k + q))) e), _, ?_, hw.push (e := .row (some ⟨w.heap.size, 0, none⟩) (grownCap w (k + q) c e) e sz (k + q) ((l2 ++ List.replicate q z0).flatMap enc)) (below_drewAlloc w _) ?_ (by simp [HEnt.block]), h _ _ hge⟩
  · simp only [execOp, resolve, invoke, builtin, Sem.run_bind, Sem.run_pure, Result.andThen_ok, List.map_toArray, List.map_cons, List.map_nil, ha.ev hx, ha.ev hy, hrun]
  · refine ⟨hlen, .inr ⟨w.heap.size, _, _, rfl, Nat.zero_le _, heap_alloc_new w.drew _, hge, grownCap_le_maxLen w (k + q) c e (by simp only [maxLen]; omega), ?_, ?_⟩⟩
    · simp only [Array.size_append, List.size_toArray, size_zeroCells, hzz, hlen, ← Nat.add_mul]
      congr 1
      omega
    · simp only [Array.toList_append]
      rw [← hlen]
      exact List.take_left
end
section
variable {ty : TypeId} {pos : String} {aft : Array Edge} {g : Option (Nat × Bool)} {d : Option Nat} {x y : Operand}
/-- slices.overlaps, of an argument of a call's own and a row that stands elsewhere. -/
theorem Yv.overlaps {f : FuncId} {fn : Func} {tS tR e T1 T2 : TypeId} {ts : Array TypeId} {vb c1 lb cb i sz by_ sz1 sz2 m c o : Nat} {A A2 : Option Addr} {vs xs : List Value} (hf : P.funcs[f]? = some fn) (hname : (fn.name == "runtime.NumGoroutine") = false) (hb : fn.body.isNone = true) (hn : Extern.findNext fn = none)
    (he : Extern.find fn = some (Extern.SlicesOverlaps.overlaps #[tS, tS] #[tR])) (hT : elT P tS = some (e, sz, by_)) (hx : ev L x = some (.slice (some ⟨vb, 0, none⟩) 1 c1)) (hy : ev L y = some (.slice A2 lb cb)) (hA2 : A2 = A.map (·.add o))
    (hv : ∀ w, HOk w0 F H w → (HEnt.row (some ⟨vb, 0, none⟩) c1 T1 sz1 1 vs).ok w) (hi : H[i]? = some (.row A c T2 sz2 m xs)) (hm : 0 < m) (hsz : 0 < sz2) (hne : A.map (·.block) ≠ some vb) :
    Yv P n w0 F H L ⟨d, .call { callee := .value (.func f), args := #[x, y], argTypes := ts }, ty, pos, aft, g⟩ (.bool false) := fun a w ha hw => by
  subst hA2
  obtain ⟨inf, hu, hinf, hs1, hs2⟩ := elT_info hT
  obtain ⟨gg, cur, e0, hh, g1, g2, g3, g4⟩ := row_form (hv w hw) (by omega)
  obtain ⟨g', cur', rfl, hh', g1', g2', g3', g4'⟩ := row_form (hw.ent _ (List.mem_of_getElem? hi)) hm
  simp only [Option.some.injEq, Addr.mk.injEq, and_true] at e0
  subst e0
  have hne' : vb ≠ g' := fun h => hne (by simp [h])
  have hk : cur'.size ≠ 0 := by
    rw [g3']
    have := Nat.mul_pos (show 0 < c by omega) hsz
    omega
  have h9 := Lib.run_overlaps_apart (P := P) w tS tR e hu inf.size (fun w => by simp [sizeOf, typeInfo, hinf]) ⟨vb, 0, none⟩ (Addr.add ⟨g', 0, none⟩ o) 1 c1 lb cb (by simpa [add_row] using hne') T1 T2 cur.size cur'.size (by simp [World.shape?, hh]) (by simp [World.shape?, add_row, hh']) hk (by simp [World.frozen?, hh]) (by simp [World.frozen?, hh])
  have hfv : a.eval (.func f) = .func (.func f) #[] #[] := rfl
  have hx' := ha.ev hx
  have hy' := ha.ev hy
  simp only [execOp, resolve, hfv, Deferred.ofValue, Sem.run_bind, Sem.run_pure, Result.andThen_ok, invoke, List.map_toArray, List.map_cons, List.map_nil, hx', hy', Option.map_some]
  rw [show (#[] ++ #[Value.slice (some ⟨vb, 0, none⟩) 1 c1, Value.slice (some (Addr.add ⟨g', 0, none⟩ o)) lb cb] ++ #[] : Array Value) = #[Value.slice (some ⟨vb, 0, none⟩) 1 c1, Value.slice (some (Addr.add ⟨g', 0, none⟩ o)) lb cb] by simp, run_callFunc_extern hf hname hb hn he, h9]
  rfl
end
end
end Go.Proofs.YtlpgcbkialcjcaaGreatDoor
