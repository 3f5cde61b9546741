/- Rows of rows: the heap's entries in another order, and a tail of entries that is no literal. Conditions: none; proved of any program. -/
import Derived.Test.YtlpgcbkialcjcaaGreatDoorCv
namespace Go.Proofs.YtlpgcbkialcjcaaGreatDoor
open Go.RowKit
/-- A slice as a cell, and what it holds. -/
structure InR (α : Type) where
  A : Option Addr
  c : Nat
  l : List α
instance {α : Type} : Inhabited (InR α) := ⟨⟨none, 0, []⟩⟩
def InR.enc {α : Type} (x : InR α) : List Value := [.slice x.A x.l.length x.c]
theorem InR.len {α : Type} (x : InR α) : x.enc.length = 1 := rfl
/-- The entry of an inner row. -/
def InR.row {α : Type} (T sz : Nat) (enc : α → List Value) (x : InR α) : HEnt := .row x.A x.c T sz x.l.length (x.l.flatMap enc)
section
variable {P : Program} {n : Nat} {w0 : World} {F : List Nat} {H H' : List HEnt} {L : Env}
theorem HOk.perm {w : World} (h : HOk w0 F H w) (hp : H.Perm H') : HOk w0 F H' w :=
  ⟨h.bel, fun e he => h.ent e (hp.mem_iff.2 he), fun f hf => h.own f (hp.mem_iff.2 hf), (hp.pairwise_iff (fun {_ _} hab g hg hg' => hab g hg' hg)).1 h.sep⟩
theorem Run.perm {c : Code} {Q : Exit → Env → List HEnt → Prop} (hp : H.Perm H') (h : Run P n w0 F c L H' Q) : Run P n w0 F c L H Q := fun a w ha hw => h a w ha (hw.perm hp)
/-- A new inner row goes to the end of the inner rows. -/
theorem Run.inner {α : Type} {T sz : Nat} {enc : α → List Value} {c : Code} {A : Option Addr} {cc m : Nat} {l : List α} {H1 : List HEnt} {rs : List (InR α)} {Q : Exit → Env → List HEnt → Prop} (hm : l.length = m)
    (h : Run P n w0 F c L (H1 ++ (rs ++ [(⟨A, cc, l⟩ : InR α)]).map (InR.row T sz enc)) Q) : Run P n w0 F c L (.row A cc T sz m (l.flatMap enc) :: (H1 ++ rs.map (InR.row T sz enc))) Q := by
  subst hm
  refine Run.perm ?_ h
  rw [List.map_append, ← List.append_assoc]
  exact (List.perm_append_comm (l₁ := [_]) (l₂ := H1 ++ rs.map (InR.row T sz enc))).trans (List.Perm.refl _)
/-- What an inner row holds. -/
theorem Rd.inner {α : Type} {T sz : Nat} {enc : α → List Value} {H1 : List HEnt} {rs : List (InR α)} {k : Nat} (hk : k < rs.length) : Rd w0 F (H1 ++ rs.map (InR.row T sz enc)) sz (nth rs k).A (nth rs k).l.length (nth rs k).c ((nth rs k).l.flatMap enc) :=
  fun _ hw => sl_of_row (T := T) (hw.ent ((nth rs k).row T sz enc) (List.mem_append_right _ (List.mem_map_of_mem (List.mem_of_getElem? (nth_get hk)))))
theorem inner_get {α : Type} {T sz : Nat} {enc : α → List Value} {H1 : List HEnt} {rs : List (InR α)} {k : Nat} (hk : k < rs.length) : (H1 ++ rs.map (InR.row T sz enc))[H1.length + k]? = some ((nth rs k).row T sz enc) := by
  rw [List.getElem?_append_right (by omega), show H1.length + k - H1.length = k by omega, List.getElem?_map, nth_get hk]
  rfl
theorem inner_set {α : Type} {T sz : Nat} {enc : α → List Value} {H1 : List HEnt} {rs : List (InR α)} {k : Nat} {x : InR α} : (H1 ++ rs.map (InR.row T sz enc)).set (H1.length + k) (x.row T sz enc) = H1 ++ (rs.set k x).map (InR.row T sz enc) := by
  rw [List.set_append_right _ _ (by omega), show H1.length + k - H1.length = k by omega, List.map_set]
/-- A store into an inner row. -/
theorem One.storeIn {ty : TypeId} {pos : String} {aft : Array Edge} {g : Option (Nat × Bool)} {T T' : TypeId} {x y : Operand} {K : Env → List HEnt → Prop} {α : Type} {enc : α → List Value} {sz k j f s : Nat} {bb : Bool} {v : Value} {e : α} {p : Addr} {H1 : List HEnt} {rs : List (InR α)} [Inhabited α] (hT : layT P T = some (bb, s))
    (hx : ev L x = some (.pointer (some p))) (hp : p = ((adr (nth rs k).A).add (j * sz)).add f) (hy : ev L y = some v) (henc : ∀ x, (enc x).length = sz) (hs : v.cells.toList.length = s) (hf : f + s ≤ sz)
    (hv : (enc (nth (nth rs k).l j)).take f ++ v.cells.toList ++ (enc (nth (nth rs k).l j)).drop (f + s) = enc e) (h1 : v.cells.toList.all Value.oneCell' = true) (hk : k < rs.length) (hj : j < (nth rs k).l.length)
    (h : K L (H1 ++ (rs.set k ⟨(nth rs k).A, (nth rs k).c, (nth rs k).l.set j e⟩).map (InR.row T' sz enc))) : One P n w0 F ⟨none, .store T x y, ty, pos, aft, g⟩ L (H1 ++ rs.map (InR.row T' sz enc)) K :=
  One.storeE (i := H1.length + k) (k := j) (l := (nth rs k).l) (e := e) hT hx hp hy henc hs hf hv h1 (inner_get hk) rfl hj (by
    have h2 := inner_set (T := T') (sz := sz) (enc := enc) (H1 := H1) (rs := rs) (k := k) (x := ⟨(nth rs k).A, (nth rs k).c, (nth rs k).l.set j e⟩)
    unfold InR.row at h2
    rw [List.length_set] at h2
    exact h2) h
theorem HOk.pushL {w w' : World} {E : List HEnt} (h : HOk w0 F H w) (hb : Below w.heap.size w w') (hok : ∀ e ∈ E, e.ok w') (hfr : ∀ e ∈ E, ∀ g, e.block = some g → w.heap.size ≤ g) (hap : E.Pairwise Apart) : HOk w0 F (H ++ E) w' := by
  have h1 := h.up hb
  refine ⟨h1.bel, fun e he => ?_, fun e he g hg => ?_, List.pairwise_append.2 ⟨h1.sep, hap, fun e he f hf g hg hg' => ?_⟩⟩
  · rcases List.mem_append.1 he with he | he
    · exact h1.ent e he
    · exact hok e he
  · rcases List.mem_append.1 he with he | he
    · exact h1.own e he g hg
    · exact .inl (Nat.le_trans h.le (hfr e he g hg))
  · have h2 := (h.ent e he).lt g hg
    have h3 := hfr f hf g hg'
    omega
/-- A row of rows that a call hands back, all of it its own. -/
def RetTab {α : Type} (w : World) (To T sz : Nat) (enc : α → List Value) (ls : List (List α)) (mk : Value → Value) (e : Ending) (w' : World) : Prop :=
  ∃ (A : Option Addr) (c : Nat) (rs : List (InR α)), rs.map InR.l = ls ∧ e = .returned (mk (.slice A rs.length c)) ∧ Below w.heap.size w w' ∧ (∀ f ∈ HEnt.row A c To 1 rs.length (rs.flatMap InR.enc) :: rs.map (InR.row T sz enc), f.ok w' ∧ ∀ g, f.block = some g → w.heap.size ≤ g) ∧
    (HEnt.row A c To 1 rs.length (rs.flatMap InR.enc) :: rs.map (InR.row T sz enc)).Pairwise Apart
theorem One.callTab {α : Type} {ty : TypeId} {pos : String} {aft : Array Edge} {g : Option (Nat × Bool)} {d To T sz : Nat} {enc : α → List Value} {K : Env → List HEnt → Prop} {f : FuncId} {xs : List Operand} {vs : List Value} {ts : Array TypeId} {ls : List (List α)} {mk : Value → Value} (hd : Nat.blt d n = true) (hc : callable P f = true) (hargs : Evs L xs vs)
    (hcc : ∀ w, HOk w0 F H w → Calls P f vs.toArray w (RetTab w To T sz enc ls mk))
    (h : ∀ A c (rs : List (InR α)), rs.map InR.l = ls → K ((d, mk (.slice A rs.length c)) :: L) (.row A c To 1 rs.length (rs.flatMap InR.enc) :: (H ++ rs.map (InR.row T sz enc)))) :
    One P n w0 F ⟨some d, .call { callee := .value (.func f), args := xs.toArray, argTypes := ts }, ty, pos, aft, g⟩ L H K :=
  One.call (by simpa [dstOk] using hd) hc hargs hcc fun _ _ _ hw ⟨A, c, rs, hls, he, hb, hok, hap⟩ => ⟨_, _, he, (hw.pushL hb (fun e he => (hok e he).1) (fun e he => (hok e he).2) hap).perm List.perm_middle, h A c rs hls⟩
/-- The call's own rows, handed back as a row of rows. -/
theorem retTab_own {α : Type} {w' : World} {To T sz c : Nat} {enc : α → List Value} {A : Option Addr} {rs : List (InR α)} {ls : List (List α)} {mk : Value → Value} {e : Ending} (hw : HOk w0 [] H w') (hls : rs.map InR.l = ls) (he : e = .returned (mk (.slice A rs.length c)))
    (hs : (HEnt.row A c To 1 rs.length (rs.flatMap InR.enc) :: rs.map (InR.row T sz enc)).Sublist H) : RetTab w0 To T sz enc ls mk e w' :=
  ⟨A, c, rs, hls, he, hw.bel.below, fun f hf => ⟨hw.ent f (hs.subset hf), fun g hg => (hw.own f (hs.subset hf) g hg).elim id (by simp)⟩, hw.sep.sublist hs⟩
end
end Go.Proofs.YtlpgcbkialcjcaaGreatDoor
