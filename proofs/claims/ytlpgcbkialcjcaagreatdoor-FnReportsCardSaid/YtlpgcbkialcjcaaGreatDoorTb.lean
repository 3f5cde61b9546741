/- Rows of rows, held by a call and handed from call to call. Conditions: none; proved of any program. -/
import Derived.Test.YtlpgcbkialcjcaaGreatDoorCw
namespace Go.Proofs.YtlpgcbkialcjcaaGreatDoor
open Go.RowKit
/-- What an inner slice holds can be read. -/
def InR.rd {α : Type} (w : World) (sz : Nat) (enc : α → List Value) (x : InR α) : Prop := Sl w sz x.A x.l.length x.c (x.l.flatMap enc)
theorem nthMem {α : Type} [Inhabited α] {l : List α} {k : Nat} (h : k < l.length) : nth l k ∈ l := List.mem_of_getElem? (nth_get h)
section
variable {P : Program} {n : Nat} {w0 : World} {F : List Nat} {H H1 : List HEnt} {L : Env} {α : Type} {T sz : Nat} {enc : α → List Value}
theorem Run.weak {c : Code} {H' : List HEnt} {Q : Exit → Env → List HEnt → Prop} (hs : H'.Sublist H) (h : Run P n w0 F c L H' Q) : Run P n w0 F c L H Q := fun a w ha hw => h a w ha (hw.sub hs)
theorem Run.capRow {i m cc sz' : Nat} {T' : TypeId} {A : Option Addr} {xs : List Value} {c : Code} {Q : Exit → Env → List HEnt → Prop} (hi : H[i]? = some (.row A cc T' sz' m xs)) (h : m ≤ cc → Run P n w0 F c L H Q) : Run P n w0 F c L H Q :=
  fun a w ha hw => h ((sl_of_row (hw.ent _ (List.mem_of_getElem? hi))).cap) a w ha hw
/-- A row's length and content, told in other words. -/
theorem Run.reRow {i cc m m' sz' : Nat} {T' : TypeId} {A : Option Addr} {xs xs' : List Value} {c : Code} {H' : List HEnt} {Q : Exit → Env → List HEnt → Prop} (hi : H[i]? = some (.row A cc T' sz' m xs)) (hm : m = m') (hx : xs = xs') (hH : H.set i (.row A cc T' sz' m' xs') = H') (h : Run P n w0 F c L H' Q) : Run P n w0 F c L H Q := by
  subst hm; subst hx
  have e : H.set i (.row A cc T' sz' m xs) = H := by
    apply List.ext_getElem?
    intro j
    rw [List.getElem?_set]
    split
    · rename_i hij
      subst hij
      rw [if_pos (List.getElem?_eq_some_iff.1 hi).1, hi]
    · rfl
  rw [e] at hH
  subst hH
  exact h
theorem flat_same {rs : List (InR α)} {k : Nat} {l' : List α} (hk : k < rs.length) (hl : l'.length = (nth rs k).l.length) : rs.flatMap InR.enc = (rs.set k ⟨(nth rs k).A, (nth rs k).c, l'⟩).flatMap InR.enc := by
  have e : ∀ l : List (InR α), l.flatMap InR.enc = l.map (fun x => Value.slice x.A x.l.length x.c) := fun l => by
    induction l with
    | nil => rfl
    | cons a t ih => rw [List.flatMap_cons, ih]; rfl
  rw [e, e, List.map_set, hl]
  apply List.ext_getElem?
  intro j
  rw [List.getElem?_set, List.getElem?_map]
  split
  · rename_i h
    subst h
    rw [nth_get hk, if_pos (by simpa using hk)]
    rfl
  · rfl
/-- The inner slices of a table, as the class reads them. -/
theorem rdin_tail {w : World} {rs rs' : List (InR α)} (hw : HOk w0 F (H1 ++ rs'.map (InR.row T sz enc)) w) (hs : ∀ x ∈ rs, x ∈ rs') : ∀ x ∈ rs, x.rd w sz enc := fun x hx =>
  sl_of_row (T := T) (hw.ent (x.row T sz enc) (List.mem_append_right _ (List.mem_map_of_mem (hs x hx))))
theorem Rd.innerOf {rs rs' : List (InR α)} {k : Nat} (hk : k < rs.length) (hs : ∀ x ∈ rs, x ∈ rs') : Rd w0 F (H1 ++ rs'.map (InR.row T sz enc)) sz (nth rs k).A (nth rs k).l.length (nth rs k).c ((nth rs k).l.flatMap enc) :=
  fun _ hw => rdin_tail hw hs _ (nthMem hk)
/-- A row that the call has made becomes an inner row. -/
theorem Run.innerTo {c : Code} {A : Option Addr} {cc m : Nat} {l : List α} {rs rs' r : List (InR α)} {Q : Exit → Env → List HEnt → Prop} (hm : l.length = m) (hp : ((⟨A, cc, l⟩ : InR α) :: rs).Perm (rs' ++ r))
    (h : Run P n w0 F c L (H1 ++ rs'.map (InR.row T sz enc)) Q) : Run P n w0 F c L (.row A cc T sz m (l.flatMap enc) :: (H1 ++ rs.map (InR.row T sz enc))) Q := by
  subst hm
  refine Run.perm (H' := (H1 ++ rs'.map (InR.row T sz enc)) ++ r.map (InR.row T sz enc)) ?_ (Run.weak (List.sublist_append_left _ _) h)
  have h1 := hp.map (InR.row T sz enc)
  rw [List.map_append, List.map_cons] at h1
  rw [List.append_assoc]
  exact (List.perm_middle.symm).trans (h1.append_left H1)
theorem perm_snoc {x : InR α} {rs : List (InR α)} : (x :: rs).Perm ((rs ++ [x]) ++ []) := by
  rw [List.append_nil]
  exact (List.perm_append_singleton x rs).symm
theorem perm_ins {x : InR α} {rs : List (InR α)} {k : Nat} : (x :: rs).Perm ((rs.take k ++ [x] ++ rs.drop k) ++ []) := by
  rw [List.append_nil, List.append_assoc]
  have h : (x :: (rs.take k ++ rs.drop k)).Perm (rs.take k ++ x :: rs.drop k) := List.perm_middle.symm
  rwa [List.take_append_drop] at h
theorem perm_set {x : InR α} : ∀ {rs : List (InR α)} {k : Nat}, k < rs.length → (x :: rs).Perm (rs.set k x ++ [nth rs k])
  | y :: rs, 0, _ => by
    have h : (y :: x :: rs).Perm ((x :: rs) ++ [y]) := (List.perm_append_singleton y (x :: rs)).symm
    exact (List.Perm.swap _ _ _).trans h
  | y :: rs, k + 1, h => ((List.Perm.swap _ _ _).trans (List.Perm.cons y (perm_set (x := x) (rs := rs) (k := k) (by simpa using h))))
theorem Run.tailPerm {c : Code} {rs rs' : List (InR α)} {Q : Exit → Env → List HEnt → Prop} (hp : rs.Perm rs') (h : Run P n w0 F c L (H1 ++ rs'.map (InR.row T sz enc)) Q) : Run P n w0 F c L (H1 ++ rs.map (InR.row T sz enc)) Q :=
  Run.perm ((hp.map _).append_left H1) h
/-- '&s[k]' of a slice whose address is known: the row is not looked at. -/
theorem Yv.indexAddrS {ty : TypeId} {pos : String} {aft : Array Edge} {g : Option (Nat × Bool)} {d : Option Nat} {T : TypeId} {x y : Operand} {a : Addr} {m c sz by_ : Nat} {e : TypeId} {ix : Int} (k : Nat) (hT : elT P T = some (e, sz, by_)) (hx : ev L x = some (.slice (some a) m c)) (hy : ev L y = some (.int .i64 ix)) (hk : ix = (k : Int)) (hkm : k < m) :
    Yv P n w0 F H L ⟨d, .indexAddr T x y, ty, pos, aft, g⟩ (.pointer (some ((adr (some a)).add (k * sz)))) := fun aa w ha hw => by
  subst hk
  unfold elT at hT
  split at hT
  · rename_i e' he
    cases hi : P.info? e' with
    | none => simp [hi] at hT
    | some i =>
      simp only [hi, Option.map_some, Option.some.injEq, Prod.mk.injEq] at hT
      obtain ⟨rfl, rfl, rfl⟩ := hT
      simp [execOp, ha.ev hx, ha.ev hy, Instr.indexAt, asIntOf, run_underlying he, hkm, sizeOf, typeInfo, hi, adr]
  · cases hT
/-- A call hands a table back, beside those that are there. -/
theorem One.callTabT {ty : TypeId} {pos : String} {aft : Array Edge} {g : Option (Nat × Bool)} {d To : Nat} {K : Env → List HEnt → Prop} {f : FuncId} {xs : List Operand} {vs : List Value} {ts : Array TypeId} {ls : List (List α)} {mk : Value → Value} {rs0 : List (InR α)} (hd : Nat.blt d n = true) (hc : callable P f = true) (hargs : Evs L xs vs)
    (hcc : ∀ w, HOk w0 F (H1 ++ rs0.map (InR.row T sz enc)) w → Calls P f vs.toArray w (RetTab w To T sz enc ls mk))
    (h : ∀ A c (rs : List (InR α)), rs.map InR.l = ls → K ((d, mk (.slice A rs.length c)) :: L) (.row A c To 1 rs.length (rs.flatMap InR.enc) :: (H1 ++ (rs0 ++ rs).map (InR.row T sz enc)))) :
    One P n w0 F ⟨some d, .call { callee := .value (.func f), args := xs.toArray, argTypes := ts }, ty, pos, aft, g⟩ L (H1 ++ rs0.map (InR.row T sz enc)) K :=
  One.callTab hd hc hargs hcc fun A c rs hrs => by
    have := h A c rs hrs
    rwa [List.map_append, ← List.append_assoc] at this
/-- A call turns all inner rows of the last table. -/
theorem One.callTabMut {ty : TypeId} {pos : String} {aft : Array Edge} {g : Option (Nat × Bool)} {d : Nat} {K : Env → List HEnt → Prop} {f : FuncId} {xs : List Operand} {vs : List Value} {ts : Array TypeId} {v : Value} {ra rs rs' : List (InR α)} (hd : Nat.blt d n = true) (hc : callable P f = true) (hargs : Evs L xs vs)
    (hcc : ∀ w, HOk w0 F (H1 ++ (ra ++ rs).map (InR.row T sz enc)) w → Calls P f vs.toArray w (RetH w (rs.map (InR.row T sz enc)) (fun (_ : Unit) => rs'.map (InR.row T sz enc)) (fun _ => v) (fun _ => True)))
    (h : K ((d, v) :: L) (H1 ++ (ra ++ rs').map (InR.row T sz enc))) :
    One P n w0 F ⟨some d, .call { callee := .value (.func f), args := xs.toArray, argTypes := ts }, ty, pos, aft, g⟩ L (H1 ++ (ra ++ rs).map (InR.row T sz enc)) K :=
  One.call (by simpa [dstOk] using hd) hc hargs hcc fun w e w' hw ⟨_, he, _, hw'⟩ => by
    refine ⟨v, _, he, ?_, h⟩
    have hp : ∀ r : List (InR α), (H1 ++ (ra ++ r).map (InR.row T sz enc)).Perm (r.map (InR.row T sz enc) ++ (H1 ++ ra.map (InR.row T sz enc))) := fun r => by
      rw [List.map_append, ← List.append_assoc]
      exact List.perm_append_comm
    exact ((hw.perm (hp rs)).frame hw').perm (hp rs').symm
/-- What such a call finds lent. -/
theorem HOk.lendT {w : World} {ra rs : List (InR α)} (hw : HOk w0 F (H1 ++ (ra ++ rs).map (InR.row T sz enc)) w) : HOk w (blks (rs.map (InR.row T sz enc))) (rs.map (InR.row T sz enc)) w :=
  HOk.lendL (H1 := H1 ++ ra.map (InR.row T sz enc)) (hw.perm (by
    rw [List.map_append, ← List.append_assoc]
    exact List.perm_append_comm))
/-- A row that is no inner row lies apart from them. -/
theorem HOk.apartT {w : World} {ra rs : List (InR α)} {i To c m : Nat} {A : Option Addr} {xs : List Value} (hw : HOk w0 F (H1 ++ (ra ++ rs).map (InR.row T sz enc)) w) (hi : H1[i]? = some (.row A c To 1 m xs)) (hm : 0 < m) : (adr A).block ∉ blks (rs.map (InR.row T sz enc)) := fun hg => by
  obtain ⟨e, he, heg⟩ := mem_blks.1 hg
  have hmem := List.mem_of_getElem? hi
  obtain ⟨gg, cur, rfl, _⟩ := row_form (hw.ent _ (List.mem_append_left _ hmem)) hm
  refine (List.pairwise_append.1 hw.sep).2.2 _ hmem e ?_ gg rfl heg
  rw [List.map_append]
  exact List.mem_append_right _ he
/-- A call turns one inner row. -/
theorem One.callMutIn {ty : TypeId} {pos : String} {aft : Array Edge} {g : Option (Nat × Bool)} {d k : Nat} {K : Env → List HEnt → Prop} {f : FuncId} {xs : List Operand} {vs : List Value} {ts : Array TypeId} {v : Value} {rs : List (InR α)} {x : InR α} {l' : List α} (hd : Nat.blt d n = true) (hc : callable P f = true) (hargs : Evs L xs vs)
    (hk : k < rs.length) (hx : nth rs k = x) (hl : l'.length = x.l.length) (hcc : ∀ w, HOk w0 F (rs.map (InR.row T sz enc)) w → Calls P f vs.toArray w (RetMut w x.A x.c T sz x.l.length (l'.flatMap enc) v))
    (h : K ((d, v) :: L) ((rs.set k ⟨x.A, x.c, l'⟩).map (InR.row T sz enc))) :
    One P n w0 F ⟨some d, .call { callee := .value (.func f), args := xs.toArray, argTypes := ts }, ty, pos, aft, g⟩ L (rs.map (InR.row T sz enc)) K := by
  subst hx
  refine One.callMut (i := k) (cells := ((nth rs k).l.flatMap enc)) hd hc hargs ?_ hcc ?_ h
  · rw [List.getElem?_map, nth_get hk]
    rfl
  · rw [List.map_set]
    unfold InR.row
    rw [hl]
theorem retTab_nil {w' : World} {To : Nat} {mk : Value → Value} {e : Ending} (hw : HOk w0 [] H w') (he : e = .returned (mk (.slice none 0 0))) : RetTab w0 To T sz enc [] mk e w' :=
  ⟨none, 0, [], rfl, he, hw.bel.below, by
    intro f hf
    simp only [List.map_nil, List.mem_cons, List.not_mem_nil, or_false] at hf
    subst hf
    exact ⟨⟨by simp, .inl ⟨rfl, rfl⟩⟩, by simp [HEnt.block]⟩, by simp⟩
theorem retTab_own2 {w' : World} {To c m : Nat} {A : Option Addr} {rs : List (InR α)} {ls : List (List α)} {mk : Value → Value} {e : Ending} (hm : rs.length = m) (hw : HOk w0 [] H w') (hls : rs.map InR.l = ls) (he : e = .returned (mk (.slice A m c)))
    (hs : (HEnt.row A c To 1 m (rs.flatMap InR.enc) :: rs.map (InR.row T sz enc)).Sublist H) : RetTab w0 To T sz enc ls mk e w' := by
  subst hm
  exact retTab_own hw hls he hs
theorem nth_mapl {rs : List (InR α)} [Inhabited α] {k : Nat} (h : k < rs.length) : nth (rs.map InR.l) k = (nth rs k).l := by
  have h1 : (rs.map InR.l)[k]? = some (nth rs k).l := by rw [List.getElem?_map, nth_get h]; rfl
  simp [nth, h1]
/-- So many cells are in the first inner rows. -/
def tot (rs : List (InR α)) : Nat → Int
  | 0 => 0
  | k + 1 => tot rs k + (nth rs k).l.length
theorem tot_nonneg {rs : List (InR α)} : ∀ {k : Nat}, 0 ≤ tot rs k
  | 0 => Int.le_refl _
  | k + 1 => by have := tot_nonneg (rs := rs) (k := k); rw [tot]; omega
theorem tot_mono {rs : List (InR α)} {a : Nat} : ∀ {b : Nat}, a ≤ b → tot rs a ≤ tot rs b
  | 0, h => by obtain rfl : a = 0 := by omega
               exact Int.le_refl _
  | b + 1, h => by
    rcases Nat.lt_or_ge a (b + 1) with h4 | h4
    · have := tot_mono (rs := rs) (a := a) (b := b) (by omega)
      rw [tot]; omega
    · obtain rfl : a = b + 1 := by omega
      exact Int.le_refl _
theorem tot_two {rs : List (InR α)} (h : ∀ x ∈ rs, x.l.length = 2) : ∀ {k : Nat}, k ≤ rs.length → tot rs k = 2 * (k : Int)
  | 0, _ => by simp [tot]
  | k + 1, hk => by
    rw [tot, tot_two h (by omega), h _ (nthMem (by omega))]
    omega
end
end Go.Proofs.YtlpgcbkialcjcaaGreatDoor
