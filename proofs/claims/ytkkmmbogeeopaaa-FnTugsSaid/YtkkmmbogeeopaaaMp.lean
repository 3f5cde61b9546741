/- Maps from numbers to numbers: made, read, written. Conditions: none; proved of any program. -/
import Derived.Test.YtkkmmbogeeopaaaTb
import Derived.MapKept
import Derived.Carry
namespace Go.Proofs.Ytkkmmbogeeopaaa
open Go.RowKit
/-- A function that answers v at k. -/
def updI (f : Int → Int) (k v : Int) : Int → Int := fun i => if i = k then v else f i
theorem updI_at {f : Int → Int} {k v : Int} : updI f k v k = v := if_pos rfl
theorem updI_ne {f : Int → Int} {k v i : Int} (h : i ≠ k) : updI f k v i = f i := if_neg h
theorem intKey {k : Int} : MapKept.IsKey (.int .i64) (.int .i64 k) := rfl
section
variable {es : Array MapEntry} {clock : Nat} {f : Int → Int} {p : Option (Int × Nat)}
theorem MapIs.keys (h : MapIs es clock f p) : ∀ x ∈ es.toList, MapKept.IsKey (.int .i64) x.key := fun x hx => by
  obtain ⟨k, h1, _⟩ := h.ks x hx
  rw [h1]
  exact intKey
theorem MapIs.empty : MapIs #[] 0 (fun _ => 0) none := ⟨MapKept.stamped_empty 0, by simp, by simp, by simp⟩
theorem MapIs.plain (h : MapIs es clock f p) : MapIs es clock f none := ⟨h.st, h.ks, h.zero, by simp⟩
theorem MapIs.push (h : MapIs es clock f p) {k v : Int} (hk : ∀ x ∈ es.toList, x.key ≠ .int .i64 k) : MapIs (es.push { key := .int .i64 k, val := .int .i64 v, born := clock }) (clock + 1) (updI f k v) (some (k, clock)) := by
  refine ⟨MapKept.stamped_push h.st hk, fun x hx => ?_, fun i hi => ?_, fun i s hs => ?_⟩
  · simp only [Array.toList_push, List.mem_append, List.mem_singleton] at hx
    rcases hx with hx | rfl
    · obtain ⟨i, h1, h2⟩ := h.ks x hx
      exact ⟨i, h1, by rw [updI_ne (fun e => hk x hx (by rw [h1, e]))]; exact h2⟩
    · exact ⟨k, rfl, by rw [updI_at]⟩
  · have h1 : i ≠ k := fun e => hi { key := .int .i64 k, val := .int .i64 v, born := clock } (by simp) (by rw [e])
    rw [updI_ne h1]
    exact h.zero i (fun x hx => hi x (by simp only [Array.toList_push, List.mem_append]; exact .inl hx))
  · simp only [Option.some.injEq, Prod.mk.injEq] at hs
    obtain ⟨rfl, rfl⟩ := hs
    exact ⟨{ key := .int .i64 k, val := .int .i64 v, born := clock }, by simp, rfl, rfl⟩
theorem MapIs.uniq (h : MapIs es clock f p) {x y : MapEntry} {i j : Nat} (hx : es[i]? = some x) (hy : es[j]? = some y) (hk : x.key = y.key) : i = j := by
  have h3 := h.st.2.2
  have hi : i < es.toList.length := by rw [Array.length_toList]; exact (Array.getElem?_eq_some_iff.1 hx).1
  have hj : j < es.toList.length := by rw [Array.length_toList]; exact (Array.getElem?_eq_some_iff.1 hy).1
  have e1 : (es.toList.map (·.key))[i]? = some x.key := by rw [List.getElem?_map, Array.getElem?_toList, hx]; rfl
  have e2 : (es.toList.map (·.key))[j]? = some x.key := by rw [List.getElem?_map, Array.getElem?_toList, hy, hk]; rfl
  exact (List.getElem?_inj (by simpa using hi) h3).1 (e1.trans e2.symm)
theorem MapIs.modify (h : MapIs es clock f p) {k v : Int} {j : Nat} {e : MapEntry} (hj : es[j]? = some e) (hk : e.key = .int .i64 k) (g : MapEntry → MapEntry) (hg : ∀ x, (g x).val = .int .i64 v ∧ (g x).born = x.born) (hgk : (g e).key = .int .i64 k) : MapIs (es.modify j g) clock (updI f k v) none := by
  refine ⟨MapKept.stamped_modify h.st _ _ (fun x _ => (hg x).2) (fun x _ hx => ?_), fun x hx => ?_, fun i hi => ?_, by simp⟩
  · rw [hj] at hx
    cases hx
    rw [hgk, hk]
  · obtain ⟨i, hi⟩ := List.mem_iff_getElem?.1 hx
    rw [Array.getElem?_toList, Array.getElem?_modify] at hi
    by_cases hij : j = i
    · subst hij
      rw [if_pos rfl, hj] at hi
      simp only [Option.map_some, Option.some.injEq] at hi
      subst hi
      exact ⟨k, hgk, by rw [updI_at]; exact (hg e).1⟩
    · rw [if_neg hij] at hi
      obtain ⟨i', h1, h2⟩ := h.ks x (by rw [Array.mem_toList_iff, Array.mem_iff_getElem?]; exact ⟨i, hi⟩)
      refine ⟨i', h1, ?_⟩
      rw [updI_ne (fun e' => hij (h.uniq hj hi (by rw [hk, h1, e']))), h2]
  · have hne : i ≠ k := fun e' => hi (g e) (by
      rw [List.mem_iff_getElem?]
      exact ⟨j, by rw [Array.getElem?_toList, Array.getElem?_modify, if_pos rfl, hj]; rfl⟩) (by rw [hgk, e'])
    rw [updI_ne hne]
    refine h.zero i (fun x hx hkx => ?_)
    obtain ⟨m, hm⟩ := List.mem_iff_getElem?.1 hx
    rw [Array.getElem?_toList] at hm
    by_cases hjm : j = m
    · subst hjm
      rw [hj] at hm
      cases hm
      rw [hk] at hkx
      exact hne (by simpa using hkx.symm)
    · exact hi x (by
        rw [List.mem_iff_getElem?]
        exact ⟨m, by rw [Array.getElem?_toList, Array.getElem?_modify, if_neg hjm, hm]⟩) hkx
end
section
variable {P : Program} {n : Nat} {w0 : World} {F : List Nat} {H : List HEnt} {L : Env}
variable {ty : TypeId} {pos : String} {aft : Array Edge} {g : Option (Nat × Bool)} {T kt et : TypeId} {d : Nat} {x y z : Operand}
theorem One.makeMap {K : Env → List HEnt → Prop} (hd : Nat.blt d n = true) (h : ∀ b, K ((d, .map (some b)) :: L) (.mp b (fun _ => 0) none :: H)) : One P n w0 F ⟨some d, .makeMap T none, ty, pos, aft, g⟩ L H K := by
  refine One.mem (by simpa [dstOk] using hd) fun a w ha hw => ⟨_, w.alloc (.map #[] 0), _, ?_, hw.push (below_alloc w _) (e := .mp w.heap.size (fun _ => 0) none) ⟨_, _, heap_alloc_new w _, MapIs.empty⟩ (by simp [HEnt.block]), h w.heap.size⟩
  simp [execOp, run_makeMap]
theorem look_mp {w : World} {b : Nat} {f : Int → Int} {p : Option (Int × Nat)} {k : Int} (hT : P.underlying T = some (.map kt et)) (hkt : P.underlying kt = some (.int .i64)) (hz : (P.info? et).bind (fun i => i.zero) = some (.int .i64 0)) (h : (HEnt.mp b f p).ok w) :
    (Instr.lookup T (.map (some b)) (.int .i64 k) false).run P w = .ok (.int .i64 (f k)) w := by
  obtain ⟨es, clock, hb, hm⟩ := h
  obtain ⟨i, hi, hz'⟩ := Option.bind_eq_some_iff.1 hz
  rcases MapKept.findNow_spec (intKey (k := k)) es.toList 0 hm.keys with ⟨h1, h2⟩ | ⟨j, e, h1, h2, h3⟩
  · rw [hm.zero k h2]
    simp [Instr.lookup, run_underlying hT, MapKept.run_getObj_map hb, MapKept.run_checkKey hkt intKey, MapKept.run_findKey hkt h1, zeroValue, typeInfo, hi, hz', Result.andThen]
  · obtain ⟨k', h4, h5⟩ := hm.ks e (List.mem_of_getElem? h2)
    obtain rfl : k = k' := by rw [h3] at h4; simpa using h4
    simp [Instr.lookup, run_underlying hT, MapKept.run_getObj_map hb, MapKept.run_checkKey hkt intKey, MapKept.run_findKey hkt h1, h5, Result.andThen]
theorem Yv.lookup {i b : Nat} {f : Int → Int} {p : Option (Int × Nat)} {k : Int} {dd : Option Nat} (hT : P.underlying T = some (.map kt et)) (hkt : P.underlying kt = some (.int .i64)) (hz : (P.info? et).bind (fun i => i.zero) = some (.int .i64 0)) (hx : ev L x = some (.map (some b))) (hy : ev L y = some (.int .i64 k)) (hi : H[i]? = some (.mp b f p)) :
    Yv P n w0 F H L ⟨dd, .lookup T x y false, ty, pos, aft, g⟩ (.int .i64 (f k)) := fun a w ha hw => by
  simp only [execOp, ha.ev hx, ha.ev hy, look_mp hT hkt hz (hw.ent _ (List.mem_of_getElem? hi)), Sem.run_bind, Sem.run_pure, Result.andThen_ok]
theorem mp_grown {w : World} {b : Nat} {es es' : Array MapEntry} {c c' : Nat} (hb : w.heap[b]? = some (.map es c)) : w.grownBy { w with heap := w.heap.setIfInBounds b (.map es' c') } (some b) :=
  ⟨rfl, rfl, rfl, by simp, fun k _ hk => (MapKept.heap_set hb).2 k (fun e => hk (by rw [e]))⟩
theorem One.mapUpdate {i b : Nat} {f : Int → Int} {p : Option (Int × Nat)} {k v : Int} {H' : List HEnt} {K : Env → List HEnt → Prop} (hT : P.underlying T = some (.map kt et)) (hkt : P.underlying kt = some (.int .i64)) (hx : ev L x = some (.map (some b))) (hy : ev L y = some (.int .i64 k)) (hv : ev L z = some (.int .i64 v)) (hi : H[i]? = some (.mp b f p))
    (hH : H.set i (.mp b (updI f k v) none) = H') (h : K L H') : One P n w0 F ⟨none, .mapUpdate T x y z, ty, pos, aft, g⟩ L H K := by
  subst hH
  refine One.memU rfl fun a w ha hw => ?_
  obtain ⟨es, clock, hb, hm⟩ := hw.ent _ (List.mem_of_getElem? hi)
  rcases MapKept.findNow_spec (intKey (k := k)) es.toList 0 hm.keys with ⟨h1, h2⟩ | ⟨j, e, h1, h2, h3⟩
  · refine ⟨{ w with heap := w.heap.setIfInBounds b (.map (es.push { key := .int .i64 k, val := .int .i64 v, born := clock }) (clock + 1)) }, _, ?_, hw.upd hi (mp_grown hb) (e' := .mp b (updI f k v) none) ⟨_, _, (MapKept.heap_set hb).1, (hm.push h2).plain⟩ (fun g hg => .inl hg), h⟩
    simp [execOp, ha.ev hx, ha.ev hy, ha.ev hv, Instr.mapUpdate, run_underlying hT, MapKept.run_getObj_map hb, MapKept.run_checkKey hkt intKey, MapKept.run_findKey hkt h1, MapKept.run_setObj_map _ hb, Result.andThen]
  · have hj : es[j]? = some e := by simpa using h2
    refine ⟨{ w with heap := w.heap.setIfInBounds b (.map (es.modify j fun e => { e with key := .int .i64 k, val := .int .i64 v }) clock) }, _, ?_, hw.upd hi (mp_grown hb) (e' := .mp b (updI f k v) none) ⟨_, _, (MapKept.heap_set hb).1, hm.modify hj h3 _ (fun _ => ⟨rfl, rfl⟩) rfl⟩ (fun g hg => .inl hg), h⟩
    simp [execOp, ha.ev hx, ha.ev hy, ha.ev hv, Instr.mapUpdate, run_underlying hT, MapKept.run_getObj_map hb, MapKept.run_checkKey hkt intKey, MapKept.run_findKey hkt h1, hj, h3, MapKept.run_keyThatStays (intKey (k := k)), MapKept.run_setObj_map _ hb, Result.andThen]
/-- 'm[k] op= ..', its first half: the entry is there, and its stamp is told. -/
theorem One.mapEntry {i b : Nat} {f : Int → Int} {p : Option (Int × Nat)} {k : Int} {H' : Nat → List HEnt} {K : Env → List HEnt → Prop} (hd : Nat.blt d n = true) (hT : P.underlying T = some (.map kt et)) (hkt : P.underlying kt = some (.int .i64)) (hz : (P.info? et).bind (fun i => i.zero) = some (.int .i64 0)) (hx : ev L x = some (.map (some b))) (hy : ev L y = some (.int .i64 k)) (hi : H[i]? = some (.mp b f p))
    (hH : ∀ s, H.set i (.mp b f (some (k, s))) = H' s) (h : ∀ s : Nat, K ((d, .tuple #[.int .i64 (f k), .int .i64 s]) :: L) (H' s)) : One P n w0 F ⟨some d, .mapEntry T x y, ty, pos, aft, g⟩ L H K := by
  refine One.mem (by simpa [dstOk] using hd) fun a w ha hw => ?_
  obtain ⟨es, clock, hb, hm⟩ := hw.ent _ (List.mem_of_getElem? hi)
  obtain ⟨ii, hi', hz'⟩ := Option.bind_eq_some_iff.1 hz
  rcases MapKept.findNow_spec (intKey (k := k)) es.toList 0 hm.keys with ⟨h1, h2⟩ | ⟨j, e, h1, h2, h3⟩
  · have hf := hm.zero k h2
    have hu : updI f k 0 = f := funext fun i => by
      by_cases e : i = k
      · rw [e, updI_at, hf]
      · rw [updI_ne e]
    have hp := hm.push (v := 0) h2
    rw [hu] at hp
    refine ⟨.tuple #[.int .i64 (f k), .int .i64 clock], { w with heap := w.heap.setIfInBounds b (.map (es.push { key := .int .i64 k, val := .int .i64 0, born := clock }) (clock + 1)) }, H' clock, ?_, ?_, h clock⟩
    · simp [execOp, ha.ev hx, ha.ev hy, Instr.mapEntry, run_underlying hT, MapKept.run_getObj_map hb, MapKept.run_checkKey hkt intKey, MapKept.run_findKey hkt h1, MapKept.run_setObj_map _ hb, zeroValue, typeInfo, hi', hz', hf, goInt, Result.andThen]
    · rw [← hH clock]
      exact hw.upd hi (mp_grown hb) (e' := .mp b f (some (k, clock))) ⟨_, _, (MapKept.heap_set hb).1, hp⟩ (fun g hg => .inl hg)
  · have hj : es[j]? = some e := by simpa using h2
    obtain ⟨k', h4, h5⟩ := hm.ks e (List.mem_of_getElem? h2)
    obtain rfl : k = k' := by rw [h3] at h4; simpa using h4
    have hmod : es.modify j (fun e => { e with key := .int .i64 k }) = es := by
      apply Array.ext_getElem?
      intro m
      rw [Array.getElem?_modify]
      by_cases hjm : j = m
      · subst hjm
        rw [if_pos rfl, hj, Option.map_some, ← h3]
      · rw [if_neg hjm]
    refine ⟨.tuple #[.int .i64 (f k), .int .i64 (e.born : Int)], { w with heap := w.heap.setIfInBounds b (.map es clock) }, H' e.born, ?_, ?_, h e.born⟩
    · simp [execOp, ha.ev hx, ha.ev hy, Instr.mapEntry, run_underlying hT, MapKept.run_getObj_map hb, MapKept.run_checkKey hkt intKey, MapKept.run_findKey hkt h1, hj, h3, h5, MapKept.run_keyThatStays (intKey (k := k)), MapKept.run_setObj_map _ hb, hmod, goInt, Result.andThen]
    · rw [← hH e.born]
      exact hw.upd hi (mp_grown hb) (e' := .mp b f (some (k, e.born))) ⟨_, _, (MapKept.heap_set hb).1, hm.st, hm.ks, hm.zero, fun i s hs => by
        simp only [Option.some.injEq, Prod.mk.injEq] at hs
        obtain ⟨rfl, rfl⟩ := hs
        exact ⟨e, List.mem_of_getElem? h2, h3, rfl⟩⟩ (fun g hg => .inl hg)
/-- 'm[k] op= ..', its second half. -/
theorem One.entryStore {i b s : Nat} {f : Int → Int} {k v : Int} {H' : List HEnt} {K : Env → List HEnt → Prop} (hx : ev L x = some (.map (some b))) (hy : ev L y = some (.int .i64 (s : Int))) (hv : ev L z = some (.int .i64 v)) (hi : H[i]? = some (.mp b f (some (k, s))))
    (hH : H.set i (.mp b (updI f k v) none) = H') (h : K L H') : One P n w0 F ⟨none, .entryStore T x y z, ty, pos, aft, g⟩ L H K := by
  subst hH
  refine One.memU rfl fun a w ha hw => ?_
  obtain ⟨es, clock, hb, hm⟩ := hw.ent _ (List.mem_of_getElem? hi)
  obtain ⟨e, he, hk, hs⟩ := hm.pend k s rfl
  obtain ⟨m, hme⟩ := List.mem_iff_getElem?.1 he
  have hme' : es[m]? = some e := by simpa using hme
  cases hf : es.findIdx? (fun e => (e.born : Int) == (s : Int)) with
  | none =>
    rw [Array.findIdx?_eq_none_iff] at hf
    have := hf e (by rw [← Array.mem_toList_iff]; exact he)
    simp [hs] at this
  | some j =>
    obtain ⟨hj1, hj2, _⟩ := Array.findIdx?_eq_some_iff_getElem.1 hf
    have hj : es[j]? = some es[j] := Array.getElem?_eq_getElem hj1
    have hb2 : es[j].born = e.born := by rw [hs]; have := beq_iff_eq.1 hj2; omega
    have hjm : j = m := by
      have h2 := hm.st.2.1
      have e1 : (es.toList.map (·.born))[j]? = some e.born := by rw [List.getElem?_map, Array.getElem?_toList, hj]; simp [hb2]
      have e2 : (es.toList.map (·.born))[m]? = some e.born := by rw [List.getElem?_map, Array.getElem?_toList, hme']; rfl
      exact (List.getElem?_inj (by simpa using hj1) h2).1 (e1.trans e2.symm)
    subst hjm
    have hje : es[j]? = some e := hme'
    refine ⟨{ w with heap := w.heap.setIfInBounds b (.map (es.modify j fun e => { e with val := .int .i64 v }) clock) }, _, ?_, hw.upd hi (mp_grown hb) (e' := .mp b (updI f k v) none) ⟨_, _, (MapKept.heap_set hb).1, hm.modify hje hk _ (fun _ => ⟨rfl, rfl⟩) hk⟩ (fun g hg => .inl hg), h⟩
    simp [execOp, ha.ev hx, ha.ev hy, ha.ev hv, Instr.entryStore, MapKept.run_getObj_map hb, asInt, asIntOf, hf, MapKept.run_setObj_map _ hb, Result.andThen]
end
end Go.Proofs.Ytkkmmbogeeopaaa
