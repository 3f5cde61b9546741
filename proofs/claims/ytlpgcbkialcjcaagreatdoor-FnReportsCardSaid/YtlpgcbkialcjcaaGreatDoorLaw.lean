/- From a contract of a law to its row: the arguments read as they read, the result is true. Conditions: none. -/
import Derived.Test.YtlpgcbkialcjcaaGreatDoorSy
import Derived.ProofKit
import Derived.SizedLaws
import Derived.Deep.Slices
namespace Go.Proofs.YtlpgcbkialcjcaaGreatDoor
open Go.ChangeShapes Go.WideShapes Go.ChangeAt Go.RowKit

section
variable {H : Type} {enc : TypeId × Value → H} {P : Program}

/-- These types' readings stay where nothing that they met has turned. -/
def readAll (P : Program) (ts : List TypeId) : Bool := ts.all fun t => P.readableRec t && Nat.blt t P.types.size

theorem trodAll_stays (hl : laidOutB P = true) {W W' : World} (hb : Below W.heap.size W W') {sp' : Nat → Bool} : ∀ {ts : List TypeId} {vs : List Value} {ds : List (DataW H)} {ps : List MemPlace}, readAll P ts = true →
    DataW.TrodAll enc P W 0 (fun _ => true) true ts vs ds ps → (∀ p ∈ ps, p.block < W.heap.size) → (∀ p ∈ ps, sp' p.block = true) → DataW.TrodAll enc P W' 0 sp' true ts vs ds ps
  | [], _, _, _, _, h, _, _ => by
    obtain ⟨rfl, rfl, rfl⟩ := trodAll_nil h
    exact trodAll_mk0
  | t :: ts, _, _, _, hr, h, hlt, hsp => by
    obtain ⟨v, vs1, d, ds1, a, b, rfl, rfl, rfl, h1, h2⟩ := trodAll_cons h
    simp only [readAll, List.all_cons, Bool.and_eq_true] at hr
    obtain ⟨⟨hr1, hr2⟩, hr3⟩ := hr
    exact ⟨a, b, (WideElems.Trod_stays hl hr1 (by simpa using hr2) h1 (fun p hp => hb.same (hlt p (by simp [hp]))) (fun p hp => hsp p (by simp [hp]))),
      (trodAll_stays hl hb (by simpa [readAll] using hr3) h2 (fun p hp => hlt p (by simp [hp])) (fun p hp => hsp p (by simp [hp]))), rfl⟩

theorem law_post {f : Func} {s : ChangeSpec} {apart fresh handsOn : Bool} {W W' : World} {args : Array Value} {ds gs : List (DataW H)} {before : List MemPlace} {tb : TypeId} (hl : laidOutB P = true) (hvars : s.vars = []) (hty : f.resultTypes = #[tb]) (htb : P.underlying tb = some .bool)
    (hp : readAll P f.params.toList = true) (hfn : ∀ ds : List (DataW H), ds.length = f.params.size → s.fn H ds = { results := [.lit (.bool true)], args := ds })
    (hlen : ds.length = f.params.size) (hW : DataW.Whole enc P f.params.toList s.vars apart W args.toList ds gs before) (hb : Below W.heap.size W W') : s.post enc P f apart fresh handsOn false W args (.bool true) W' := by
  have hW' := hW
  obtain ⟨p, q, hA, hV, rfl, hfz, hnd⟩ := hW
  rw [hvars] at hV
  obtain ⟨rfl, rfl⟩ := trodVars_none hV
  have hlt : ∀ x ∈ p, x.block < W.heap.size := fun x hx => hW'.lt x (by simp [hx])
  have hold : ∀ x ∈ p, (fun b => decide (b < W.heap.size)) x.block = true := fun x hx => by simpa using hlt x hx
  have hf := hfn ds hlen
  refine ⟨ds, [], p ++ [], [], p, [], hW', ?_, ?_, ?_, hb.frame _, fun h => by cases h⟩
  · rw [List.append_nil, hf, hty]
    exact trodAll_mk1 (shut_bool htb true)
  · rw [List.append_nil, hf]
    exact trodAll_stays hl hb hp hA hlt hold
  · rw [hvars, List.append_nil, hf]
    rfl

/-! ### Arguments -/
variable {W : World}

/-- A slice of elements that are encoded cell by cell. -/
theorem list_at {α : Type} [Inhabited α] {el : α → List Value} {sz : Nat} {t e : TypeId} {fuel : Nat} {cs : List Value} {x : DataW H × List MemPlace} (ht : P.underlying t = some (.slice e)) (hC : P.cellsOf e = sz) (hsz : 0 < sz) (hel : ∀ x, (el x).length = sz)
    (dec : ∀ (n : Nat) (cs : List Value) (x : DataW H × List MemPlace), cs.length = sz → DataW.trod enc P W 0 (fun _ => true) true n e cs = some x → ∃ a, cs = el a)
    (h : DataW.trod enc P W 0 (fun _ => true) true fuel t cs = some x) :
    ∃ (A : Option Addr) (c : Nat) (l : List α), cs = [.slice A l.length c] ∧ Sl W sz A l.length c (l.flatMap el) ∧ (x.1 = .nil ∧ l = [] ∨ ∃ es sp, x.1 = .slice es sp ∧ es.length = l.length) := by
  rcases Deep.open_slice ht h with ⟨hcs, hx⟩ | ⟨a, len, cap, m, n, D, Pl, hcs, _, hl, hm, hmm, hx, hi⟩
  · subst hx
    exact ⟨none, 0, [], hcs, ⟨by simp, Nat.le_refl _, Nat.zero_le _, fun h => by simp at h⟩, .inl ⟨rfl, rfl⟩⟩
  · simp only [if_true] at hmm
    rw [hmm] at hi
    clear hmm
    subst hx
    have hex : ∀ i, i < len → ∃ x : α, ∀ j u, (el x)[j]? = some u → W.cell? (a.add (i * sz + j)) = some u := fun i hilt => by
      obtain ⟨cs', hc, ht'⟩ := hi i (by omega)
      rw [hC] at hc
      obtain ⟨_, hcl, hat⟩ := World.cells?_some hc
      obtain ⟨x, rfl⟩ := dec n cs' _ hcl ht'
      refine ⟨x, fun j u hu => ?_⟩
      have hj : j < sz := by have := (List.getElem?_eq_some_iff.1 hu).1; rwa [hel] at this
      rw [← add_add', hat j hj]
      exact hu
    obtain ⟨fx, hfx⟩ := Deep.choose_lt hex
    let l : List α := (List.range len).map fx
    have hll : l.length = len := by simp [l]
    refine ⟨some a, cap, l, by rw [hcs, hll], ⟨by rw [flat_len hel], by omega, hm, fun hn => ⟨rfl, ?_, ?_⟩⟩, .inr ⟨_, _, rfl, by simp [l]⟩⟩
    · have hz : 0 < len := by omega
      have h0 : 0 < (el (fx 0)).length := by rw [hel]; exact hsz
      have := hfx 0 hz 0 _ (List.getElem?_eq_getElem h0)
      have h2 := World.block_lt_of_cell? _ _ this
      rwa [add_block] at h2
    · intro j u hu
      have hjl : j < len * sz := by
        have h1 := (List.getElem?_eq_some_iff.1 hu).1
        rwa [flat_len hel, hll] at h1
      have hd : j = j / sz * sz + j % sz := by rw [Nat.mul_comm]; exact (Nat.div_add_mod j sz).symm
      have h1 : j / sz < len := by rw [Nat.div_lt_iff_lt_mul hsz]; exact hjl
      have h2 : j % sz < sz := Nat.mod_lt _ hsz
      rw [hd] at hu ⊢
      rw [flat_get hel _ _ _ h2] at hu
      have hlk : l[j / sz]? = some (fx (j / sz)) := by simp [l, h1]
      rw [hlk] at hu
      exact hfx _ h1 _ _ hu
/-- The same, of an argument. -/
theorem open_list {α : Type} [Inhabited α] {el : α → List Value} {sz : Nat} {base : Nat} {t e : TypeId} {v : Value} {d : DataW H} {p : List MemPlace} (ht : P.underlying t = some (.slice e)) (hC : P.cellsOf e = sz) (hsz : 0 < sz) (hel : ∀ x, (el x).length = sz)
    (dec : ∀ (n : Nat) (cs : List Value) (x : DataW H × List MemPlace), cs.length = sz → DataW.trod enc P W 0 (fun _ => true) true n e cs = some x → ∃ a, cs = el a)
    (hv : Value.okWide P W .any base t v) (h : DataW.Trod enc P W 0 (fun _ => true) true t v d p) :
    ∃ (A : Option Addr) (c : Nat) (l : List α), v = .slice A l.length c ∧ Sl W sz A l.length c (l.flatMap el) ∧ (d = .nil ∧ l = [] ∨ ∃ es sp, d = .slice es sp ∧ es.length = l.length) := by
  obtain ⟨a0, len, cap, rfl⟩ := okWide_slice ht hv
  obtain ⟨fuel, hf⟩ := h
  obtain ⟨A, c, l, h1, h2, h3⟩ := list_at ht hC hsz hel dec hf
  simp [Value.cells] at h1
  obtain ⟨rfl, rfl, rfl⟩ := h1
  exact ⟨_, _, l, rfl, h2, h3⟩
/-- A field of a struct, as it is trod. -/
theorem trod_fieldT {t : TypeId} {fs : Array Field} {n : Nat} {cs : List Value} {x : DataW H × List MemPlace} {sp : Nat → Bool} (i : Nat) {f : Field} (ht : P.underlying t = some (.struct fs)) (hf : fs[i]? = some f)
    (h : DataW.trod enc P W 0 sp true n t cs = some x) : ∃ m ys y, x.1 = .agg ys ∧ ys[i]? = some y.1 ∧ DataW.trod enc P W 0 sp true m f.type ((cs.drop f.offset).take (P.cellsOf f.type)) = some y := by
  obtain ⟨xs, m, _, hx, _, hlen, hi⟩ := DataW.trod_struct ht h
  have h1 := hi i f hf
  have hlt : i < xs.length := by rw [hlen]; exact (Array.getElem?_eq_some_iff.1 hf).1
  rw [List.getElem?_eq_getElem hlt] at h1
  exact ⟨m, xs.map (·.1), xs[i], by rw [hx], by simp [hlt], h1⟩
theorem cell_of_take {cs : List Value} {o : Nat} {v : Value} (h : (cs.drop o).take 1 = [v]) : cs[o]? = some v := by
  have h3 : ((cs.drop o).take 1)[0]? = some v := by rw [h]; rfl
  simpa [List.getElem?_take] using h3
/-- The reach, inside of a struct. -/
theorem weight_in {fs : Array Field} {parts : List (DataW H)} : ∀ {i : Nat} {t : TypeId} {ts : List TypeId} {ds : List (DataW H)}, P.underlying t = some (.struct fs) → ts[i]? = some t → ds[i]? = some (.agg parts) →
    (DataW.weightsEach P ts ds).all (· ≤ reachBytes) = true → (DataW.weightsEach P (fs.toList.map (·.type)) parts).all (· ≤ reachBytes) = true
  | 0, t, t' :: ts, d :: ds, ht, h1, h2, hw => by
    simp at h1 h2
    subst h1; subst h2
    simp only [DataW.weightsEach, DataW.weights, ht, List.all_append, Bool.and_eq_true] at hw
    exact hw.1
  | i + 1, t, t' :: ts, d :: ds, ht, h1, h2, hw => by
    simp only [DataW.weightsEach, List.all_append, Bool.and_eq_true] at hw
    exact weight_in (i := i) ht (by simpa using h1) (by simpa using h2) hw.2
  | 0, _, [], _, _, h1, _, _ => by simp at h1
  | _ + 1, _, [], _, _, h1, _, _ => by simp at h1
  | 0, _, _ :: _, [], _, _, h2, _ => by simp at h2
  | _ + 1, _, _ :: _, [], _, _, h2, _ => by simp at h2
/-- A field of a struct: a number, a truth value, a text. -/
theorem trod_fieldI {t : TypeId} {fs : Array Field} {n : Nat} {cs : List Value} {x : DataW H × List MemPlace} {sp : Nat → Bool} (i : Nat) {f : Field} {k : IntKind} (ht : P.underlying t = some (.struct fs)) (hf : fs[i]? = some f) (hk : P.underlying f.type = some (.int k)) (hc : P.cellsOf f.type = 1)
    (h : DataW.trod enc P W 0 sp true n t cs = some x) : ∃ v, cs[f.offset]? = some (.int k v) ∧ (Lit.int k v).wf = true := by
  obtain ⟨xs, m, _, _, _, hlen, hi⟩ := DataW.trod_struct ht h
  have h1 := hi i f hf
  have hlt : i < xs.length := by rw [hlen]; exact (Array.getElem?_eq_some_iff.1 hf).1
  rw [List.getElem?_eq_getElem hlt, hc] at h1
  obtain ⟨v, h2, _, hw⟩ := DataW.trod_int hk h1
  refine ⟨v, ?_, hw⟩
  have h3 : ((cs.drop f.offset).take 1)[0]? = some (.int k v) := by rw [h2]; rfl
  simpa [List.getElem?_take] using h3
theorem trod_fieldB {t : TypeId} {fs : Array Field} {n : Nat} {cs : List Value} {x : DataW H × List MemPlace} {sp : Nat → Bool} (i : Nat) {f : Field} (ht : P.underlying t = some (.struct fs)) (hf : fs[i]? = some f) (hk : P.underlying f.type = some .bool) (hc : P.cellsOf f.type = 1)
    (h : DataW.trod enc P W 0 sp true n t cs = some x) : ∃ v, cs[f.offset]? = some (.bool v) := by
  obtain ⟨xs, m, _, _, _, hlen, hi⟩ := DataW.trod_struct ht h
  have h1 := hi i f hf
  have hlt : i < xs.length := by rw [hlen]; exact (Array.getElem?_eq_some_iff.1 hf).1
  rw [List.getElem?_eq_getElem hlt, hc] at h1
  obtain ⟨v, h2, _⟩ := DataW.trod_bool hk h1
  refine ⟨v, ?_⟩
  have h3 : ((cs.drop f.offset).take 1)[0]? = some (.bool v) := by rw [h2]; rfl
  simpa [List.getElem?_take] using h3
/-- The reach: what such a slice weighs. -/
theorem weight_list {t e : TypeId} {es sp : List (DataW H)} {ts : List TypeId} {ds : List (DataW H)} {by_ : Nat} (ht : P.underlying t = some (.slice e)) (hby : P.bytesOf e = by_)
    (hw : (DataW.weightsEach P (t :: ts) (.slice es sp :: ds)).all (· ≤ reachBytes) = true) : es.length * by_ ≤ 140737488351232 := by
  simp only [DataW.weightsEach, DataW.weights, ht, List.cons_append, List.all_cons, Bool.and_eq_true, hby] at hw
  have h1 := of_decide_eq_true hw.1
  have h2 : es.length * by_ ≤ (es.length + sp.length) * by_ := Nat.mul_le_mul_right _ (by omega)
  simp only [reachBytes] at h1
  omega
/-- The same, of the argument of a number. -/
theorem weight_at {e : TypeId} {by_ : Nat} {es sp : List (DataW H)} : ∀ {i : Nat} {t : TypeId} {ts : List TypeId} {ds : List (DataW H)}, P.underlying t = some (.slice e) → P.bytesOf e = by_ → ts[i]? = some t → ds[i]? = some (.slice es sp) →
    (DataW.weightsEach P ts ds).all (· ≤ reachBytes) = true → es.length * by_ ≤ 140737488351232
  | 0, t, t' :: ts, d :: ds, ht, hby, h1, h2, hw => by
    simp at h1 h2
    subst h1; subst h2
    exact weight_list ht hby hw
  | i + 1, t, t' :: ts, d :: ds, ht, hby, h1, h2, hw => by
    simp only [DataW.weightsEach, List.all_append, Bool.and_eq_true] at hw
    exact weight_at (i := i) ht hby (by simpa using h1) (by simpa using h2) hw.2
  | 0, _, [], _, _, _, h1, _, _ => by simp at h1
  | _ + 1, _, [], _, _, _, h1, _, _ => by simp at h1
  | 0, _, _ :: _, [], _, _, _, h2, _ => by simp at h2
  | _ + 1, _, _ :: _, [], _, _, _, h2, _ => by simp at h2
end
end Go.Proofs.YtlpgcbkialcjcaaGreatDoor
