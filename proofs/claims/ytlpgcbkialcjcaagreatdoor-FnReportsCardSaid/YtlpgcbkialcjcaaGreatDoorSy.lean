/- A calculus for walking Go functions: judgements over symbolic environments (slot, value) and symbolic heaps (the call's own blocks and rows), one rule an operation. Conditions: none; every theorem here is proved of any program. -/
import Derived.WalkKit
import Derived.Deep.Quiet
import Derived.OrdersHeld
import Derived.Maps.AppendAt
import Derived.WalkLawsBesides
namespace Go.Proofs.YtlpgcbkialcjcaaGreatDoor
open Go.RowKit

/-! ### Environments -/
abbrev Env := List (Nat × Value)

def pushE : Option Nat → Value → Env → Env
  | some d, v, L => (d, v) :: L
  | none, _, L => L

def dstOk (n : Nat) : Option Nat → Bool
  | some d => Nat.blt d n
  | none => true

def ev (L : Env) : Operand → Option Value
  | .tmp t => L.lookup t
  | .const v => some v
  | .global g => some (.pointer (some ⟨g, 0, none⟩))
  | .func f => some (.func (.func f) #[] #[])

structure Fr (n : Nat) (L : Env) (a : Act) : Prop where
  size : a.tmps.size = n
  defers : a.defers = []
  get : ∀ t v, L.lookup t = some v → a.tmps[t]? = some v

theorem Fr.put {n : Nat} {L : Env} {a : Act} {d : Option Nat} (v : Value) (hd : dstOk n d = true) (h : Fr n L a) : Fr n (pushE d v L) (a.put d v) := by
  cases d with
  | none => exact h
  | some d =>
    have hd' : d < n := by simpa [dstOk] using hd
    refine ⟨by simp [Act.put, h.size], h.defers, fun t u hu => ?_⟩
    simp only [pushE, List.lookup] at hu
    simp only [Act.put, Array.getElem?_setIfInBounds]
    by_cases ht : t = d
    · subst ht
      simp at hu
      subst hu
      simp [h.size, hd']
    · have hb : (t == d) = false := by simpa using ht
      rw [hb] at hu
      rw [if_neg (fun e => ht e.symm)]
      exact h.get t u hu

theorem Fr.ev {n : Nat} {L : Env} {a : Act} {x : Operand} {v : Value} (h : Fr n L a) (hx : ev L x = some v) : a.eval x = v := by
  cases x with
  | tmp t =>
    have := h.get t v hx
    simp [Act.eval, this]
  | const u => simpa [Go.Proofs.YtlpgcbkialcjcaaGreatDoor.ev, Act.eval] using hx
  | global g => simpa [Go.Proofs.YtlpgcbkialcjcaaGreatDoor.ev, Act.eval] using hx
  | func f => simpa [Go.Proofs.YtlpgcbkialcjcaaGreatDoor.ev, Act.eval] using hx

/-- L' asks no more than L. -/
def SubE (L' L : Env) : Prop := ∀ t v, L'.lookup t = some v → L.lookup t = some v
theorem SubE.refl (L : Env) : SubE L L := fun _ _ h => h
theorem SubE.nil (L : Env) : SubE [] L := fun _ _ h => by cases h
theorem SubE.cons {t : Nat} {v : Value} {L' L : Env} (h : L.lookup t = some v) (hs : SubE L' L) : SubE ((t, v) :: L') L := fun u x hx => by
  simp only [List.lookup] at hx
  by_cases hu : u = t
  · subst hu; simp at hx; subst hx; exact h
  · have hb : (u == t) = false := by simpa using hu
    rw [hb] at hx
    exact hs u x hx
theorem Fr.sub {n : Nat} {L L' : Env} {a : Act} (h : Fr n L a) (hs : SubE L' L) : Fr n L' a := ⟨h.size, h.defers, fun t v hv => h.get t v (hs t v hv)⟩
/-- What is laid onto L under slots that L does not name keeps L. -/
def freshE (L : Env) : Env → Bool
  | [] => true
  | (t, _) :: pre => (L.lookup t).isNone && freshE L pre
theorem SubE.fresh {L : Env} : ∀ {pre : Env}, freshE L pre = true → SubE L (pre ++ L)
  | [], _ => SubE.refl L
  | (t, u) :: pre, h => fun s v hv => by
    simp only [freshE, Bool.and_eq_true] at h
    simp only [List.cons_append, List.lookup]
    by_cases hs : s = t
    · subst hs; rw [hv] at h; simp at h
    · have hb : (s == t) = false := by simpa using hs
      rw [hb]
      exact SubE.fresh h.2 s v hv

/-! ### The call's own memory -/
inductive HEnt where
  | blk (b : Nat) (T : TypeId) (cs : List Value)
  | row (A : Option Addr) (c : Nat) (T : TypeId) (sz n : Nat) (xs : List Value)
  | mp (b : Nat) (f : Int → Int) (pend : Option (Int × Nat))

/-- A map from numbers to numbers that reads as f, zero where it has no entry; 'pend': a key whose entry is there, and that entry's stamp. -/
structure MapIs (es : Array MapEntry) (clock : Nat) (f : Int → Int) (pend : Option (Int × Nat)) : Prop where
  st : MapKept.Stamped es clock
  ks : ∀ x ∈ es.toList, ∃ k, x.key = .int .i64 k ∧ x.val = .int .i64 (f k)
  zero : ∀ k, (∀ x ∈ es.toList, x.key ≠ .int .i64 k) → f k = 0
  pend : ∀ k s, pend = some (k, s) → ∃ x ∈ es.toList, x.key = .int .i64 k ∧ x.born = s

def HEnt.ok (w : World) : HEnt → Prop
  | .blk b T cs => w.heap[b]? = some (.cells cs.toArray T (0, 0))
  | .row A c T sz n xs => w.ownsRow 0 T sz (.slice A n c) n xs
  | .mp b f p => ∃ es clock, w.heap[b]? = some (.map es clock) ∧ MapIs es clock f p

def HEnt.block : HEnt → Option Nat
  | .blk b _ _ => some b
  | .row A _ _ _ _ _ => A.map (·.block)
  | .mp b _ _ => some b

def Apart (e f : HEnt) : Prop := ∀ g, e.block = some g → f.block ≠ some g
theorem Apart.symm {e f : HEnt} (h : Apart e f) : Apart f e := fun g hf he => h g he hf

/-- What was there is as it was, but for the blocks F. -/
structure Bel (F : List Nat) (w0 w : World) : Prop where
  os : w.os = w0.os
  tape : w.tape = w0.tape
  output : w.output = w0.output
  size : w0.heap.size ≤ w.heap.size
  block : ∀ k, k < w0.heap.size → k ∉ F → w.heap[k]? = w0.heap[k]?

theorem Bel.refl (F : List Nat) (w : World) : Bel F w w := ⟨rfl, rfl, rfl, Nat.le_refl _, fun _ _ _ => rfl⟩
theorem Bel.trans {F G : List Nat} {a b c : World} (h : Bel F a b) (k : Bel G b c) (hg : ∀ x ∈ G, a.heap.size ≤ x ∨ x ∈ F) : Bel F a c :=
  ⟨k.os.trans h.os, k.tape.trans h.tape, k.output.trans h.output, Nat.le_trans h.size k.size, fun i hi hn => (k.block i (Nat.lt_of_lt_of_le hi h.size) (fun hx => by
    rcases hg i hx with h1 | h1
    · omega
    · exact hn h1)).trans (h.block i hi hn)⟩
theorem Bel.of_below {F : List Nat} {w w' : World} (h : Below w.heap.size w w') : Bel F w w' := ⟨h.os, h.tape, h.output, h.size, fun k hk _ => h.block k hk⟩
theorem Bel.below {w w' : World} (h : Bel [] w w') : Below w.heap.size w w' := ⟨h.os, h.tape, h.output, h.size, fun k hk => h.block k hk (by simp)⟩
theorem Bel.up {F : List Nat} {w0 w w' : World} (h : Bel F w0 w) (hb : Below w.heap.size w w') : Bel F w0 w' := h.trans (Bel.of_below (F := []) hb) (by simp)
theorem Bel.of_grown {F : List Nat} {w w' : World} {row : Option Nat} (h : w.grownBy w' row) (hr : ∀ g, row = some g → w.heap.size ≤ g ∨ g ∈ F) : Bel F w w' :=
  ⟨h.os, h.tape, h.output, h.size, fun k hk hn => h.block k hk (fun e => by
    rcases hr k e.symm with h1 | h1
    · omega
    · exact hn h1)⟩

structure HOk (w0 : World) (F : List Nat) (H : List HEnt) (w : World) : Prop where
  bel : Bel F w0 w
  ent : ∀ e ∈ H, e.ok w
  own : ∀ e ∈ H, ∀ g, e.block = some g → w0.heap.size ≤ g ∨ g ∈ F
  sep : H.Pairwise Apart

theorem ownBlock_slice (A : Option Addr) (n c : Nat) : (Value.slice A n c).ownBlock = A.map (·.block) := by cases A <;> rfl

theorem HEnt.ok.lt {w : World} {e : HEnt} (h : e.ok w) : ∀ g, e.block = some g → g < w.heap.size := by
  intro g hg
  cases e with
  | blk b T cs =>
    simp only [HEnt.block, Option.some.injEq] at hg
    subst hg
    exact (Array.getElem?_eq_some_iff.1 h).1
  | row A c T sz n xs => exact (World.ownsRow.lt h g (by rw [ownBlock_slice]; exact hg)).2
  | mp b f p =>
    simp only [HEnt.block, Option.some.injEq] at hg
    subst hg
    obtain ⟨es, clock, hb, _⟩ := h
    exact (Array.getElem?_eq_some_iff.1 hb).1

theorem HEnt.ok.kept {w w' : World} {e : HEnt} (h : e.ok w) (hb : ∀ g, e.block = some g → w'.heap[g]? = w.heap[g]?) : e.ok w' := by
  cases e with
  | blk b T cs => exact (hb b rfl).trans h
  | mp b f p =>
    obtain ⟨es, clock, h1, h2⟩ := h
    exact ⟨es, clock, (hb b rfl).trans h1, h2⟩
  | row A c T sz n xs =>
    have h' : w.ownsRow 0 T sz (.slice A n c) n xs := h
    refine ⟨h'.1, ?_⟩
    rcases h'.2 with h0 | ⟨g, cap, cur, hv, hg, hh, r⟩
    · exact .inl h0
    · refine .inr ⟨g, cap, cur, hv, hg, (hb g ?_).trans hh, r⟩
      simp only [Value.slice.injEq] at hv
      obtain ⟨rfl, _⟩ := hv
      rfl

section
variable {w0 w w' : World} {F : List Nat} {H : List HEnt}
theorem HOk.start (w : World) : HOk w [] [] w := ⟨Bel.refl _ _, by simp, by simp, .nil⟩
theorem HOk.le (h : HOk w0 F H w) : w0.heap.size ≤ w.heap.size := h.bel.size
theorem HOk.up (h : HOk w0 F H w) (hb : Below w.heap.size w w') : HOk w0 F H w' :=
  ⟨h.bel.up hb, fun e he => (h.ent e he).kept (fun g hg => hb.block g ((h.ent e he).lt g hg)), h.own, h.sep⟩
theorem HOk.drew (h : HOk w0 F H w) : HOk w0 F H { w with drawn := w.drawn + 1 } := h.up ⟨rfl, rfl, rfl, Nat.le_refl _, fun _ _ => rfl⟩
theorem HOk.sub {H' : List HEnt} (h : HOk w0 F H w) (hs : H'.Sublist H) : HOk w0 F H' w := ⟨h.bel, fun e he => h.ent e (hs.subset he), fun e he => h.own e (hs.subset he), h.sep.sublist hs⟩
theorem HOk.push {e : HEnt} (h : HOk w0 F H w) (hb : Below w.heap.size w w') (hok : e.ok w') (hbl : ∀ g, e.block = some g → w.heap.size ≤ g) : HOk w0 F (e :: H) w' := by
  have hu := h.up hb
  refine ⟨hu.bel, fun f hf => ?_, fun f hf g hg => ?_, List.pairwise_cons.2 ⟨fun f hf g hg hg' => ?_, h.sep⟩⟩
  · rcases List.mem_cons.1 hf with rfl | hf
    · exact hok
    · exact hu.ent f hf
  · rcases List.mem_cons.1 hf with rfl | hf
    · exact .inl (Nat.le_trans h.le (hbl g hg))
    · exact hu.own f hf g hg
  · have h1 := hbl g hg
    have h2 := (h.ent f hf).lt g hg'
    omega
theorem HOk.upd {i : Nat} {e e' : HEnt} (h : HOk w0 F H w) (hi : H[i]? = some e) (hg : w.grownBy w' e.block) (hok : e'.ok w')
    (hb : ∀ g, e'.block = some g → e.block = some g ∨ w.heap.size ≤ g) : HOk w0 F (H.set i e') w' := by
  have hil : i < H.length := (List.getElem?_eq_some_iff.1 hi).1
  have hie : H[i] = e := (List.getElem?_eq_some_iff.1 hi).2
  have hmem : e ∈ H := List.mem_of_getElem? hi
  have hsep := List.pairwise_iff_getElem.1 h.sep
  have apart : ∀ j (hj : j < H.length), j ≠ i → Apart e H[j] := fun j hj hne => by
    rcases Nat.lt_or_ge j i with hlt | hge
    · exact hie ▸ (hsep j i hj hil hlt).symm
    · exact hie ▸ hsep i j hil hj (by omega)
  refine ⟨h.bel.trans (Bel.of_grown (F := e.block.toList) hg (fun g hg => .inr (by simp [hg]))) (fun x hx => h.own e hmem x (by simpa using hx)), fun f hf => ?_, fun f hf g hgf => ?_, List.pairwise_iff_getElem.2 fun j k hj hk hjk => ?_⟩
  · obtain ⟨j, hj, rfl⟩ := List.getElem_of_mem hf
    rw [List.getElem_set]
    split
    · exact hok
    · rename_i hne
      have hj' : j < H.length := by simpa using hj
      have hokj := h.ent _ (List.getElem_mem hj')
      exact hokj.kept (fun g hg' => hg.block g (hokj.lt g hg') (fun he => apart j hj' (fun e => hne e.symm) g he.symm hg'))
  · obtain ⟨j, hj, rfl⟩ := List.getElem_of_mem hf
    rw [List.getElem_set] at hgf
    split at hgf
    · rcases hb g hgf with h1 | h1
      · exact h.own e hmem g h1
      · exact .inl (Nat.le_trans h.le h1)
    · have hj' : j < H.length := by simpa using hj
      exact h.own _ (List.getElem_mem hj') g hgf
  · have hj' : j < H.length := by simpa using hj
    have hk' : k < H.length := by simpa using hk
    have key : ∀ m (hm : m < H.length), m ≠ i → Apart e' H[m] := fun m hm hne g hg1 hg2 => by
      rcases hb g hg1 with h1 | h1
      · exact apart m hm hne g h1 hg2
      · have := (h.ent _ (List.getElem_mem hm)).lt g hg2
        omega
    rw [List.getElem_set, List.getElem_set]
    split
    · rename_i h1
      rw [if_neg (by omega)]
      exact key k hk' (by omega)
    · rename_i h1
      split
      · exact (key j hj' (by omega)).symm
      · exact hsep j k hj' hk' hjk
end

/-! ### Quiet operations: one value in every world of the class -/
section
variable {P : Program} {n : Nat} {w0 : World} {F : List Nat} {H : List HEnt} {L : Env}

def Yl (P : Program) (n : Nat) (w0 : World) (F : List Nat) (H : List HEnt) (L : Env) (o : Oper) (v : Value) : Prop :=
  ∀ a w, Fr n L a → HOk w0 F H w → o.quietAt P a (HOk w0 F H) w v

/-- The operation yields this value in every world of the class, and leaves the world as it is. -/
def Yv (P : Program) (n : Nat) (w0 : World) (F : List Nat) (H : List HEnt) (L : Env) (o : Oper) (v : Value) : Prop :=
  ∀ a w, Fr n L a → HOk w0 F H w → (execOp a.eval o).run P w = .ok (.value v) w

theorem Yl.val {o : Oper} {v : Value} (h : ∀ a w, Fr n L a → HOk w0 F H w → (execOp a.eval o).run P w = .ok (.value v) w) : Yl P n w0 F H L o v := fun a w ha hw => by
  unfold Oper.quietAt
  rw [h a w ha hw]
  exact ⟨rfl, rfl⟩

theorem Yv.yl {o : Oper} {v : Value} (h : Yv P n w0 F H L o v) : Yl P n w0 F H L o v := Yl.val h

def nthDst : List Oper → Nat → Option Nat
  | [], _ => none
  | o :: _, 0 => o.dst
  | _ :: r, k + 1 => nthDst r k

theorem nthDst_eq : ∀ (l : List Oper) (j : Nat), nthDst l j = (l.toArray[j]?).bind (·.dst)
  | [], j => by simp [nthDst]
  | o :: r, 0 => by simp [nthDst]
  | o :: r, k + 1 => by simp [nthDst, nthDst_eq r k]

def wantedL (l0 : List Oper) (L : Env) (g : Option (Nat × Bool)) : Option Bool :=
  match g with
  | none => some true
  | some (j, want) =>
    match nthDst l0 j with
    | none => none
    | some t =>
      match L.lookup t with
      | some (.bool b) => some (b == want)
      | some (.tuple _) => some false
      | _ => none

theorem wantedL_eq {l0 : List Oper} {a : Act} {o : Oper} {b : Bool} (ha : Fr n L a) (h : wantedL l0 L o.guard = some b) : Region.wanted o (yielded l0.toArray a.tmps) = b := by
  unfold wantedL at h
  unfold Region.wanted
  split at h
  · rename_i hg
    simp only [hg]
    simpa using h
  · rename_i j want hg
    simp only [hg]
    unfold yielded
    rw [← nthDst_eq]
    split at h
    · cases h
    · rename_i t ht
      rw [ht]
      split at h
      · rename_i x hx
        have := ha.get _ _ hx
        simp only [Option.bind_some, this]
        simp only [Option.some.injEq] at h
        rw [← h]
        cases x <;> cases want <;> rfl
      · rename_i x hx
        have := ha.get _ _ hx
        simp only [Option.bind_some, this]
        simp only [Option.some.injEq] at h
        rw [← h]
        rfl
      · cases h

def QOps (P : Program) (n : Nat) (w0 : World) (F : List Nat) (H : List HEnt) (l0 : List Oper) (l : List Oper) (L : Env) (Q : Env → Prop) : Prop :=
  ∀ a, Fr n L a → wpQuiet P l0.toArray (HOk w0 F H) (fun a' => ∃ L', Fr n L' a' ∧ Q L') l a

theorem Yv.wk {H' : List HEnt} {o : Oper} {v : Value} (h : Yv P n w0 F H' L o v) (hs : H'.Sublist H) : Yv P n w0 F H L o v := fun a w ha hw => h a w ha (hw.sub hs)

theorem QOps.nil {l0 : List Oper} {Q : Env → Prop} (h : Q L) : QOps P n w0 F H l0 [] L Q := fun _ ha => ⟨L, ha, h⟩

theorem QOps.step {l0 rest : List Oper} {o : Oper} {v : Value} {Q : Env → Prop} (hw : wantedL l0 L o.guard = some true) (hd : dstOk n o.dst = true) (hy : Yl P n w0 F H L o v)
    (h : QOps P n w0 F H l0 rest (pushE o.dst v L) Q) : QOps P n w0 F H l0 (o :: rest) L Q := fun a ha => by
  refine wpQuiet_step fun K hK => ?_
  rw [if_pos (wantedL_eq ha hw)]
  exact ⟨v, fun w hw => hy a w ha hw, hK _ (h _ (ha.put v hd))⟩

theorem QOps.skip {l0 rest : List Oper} {o : Oper} {Q : Env → Prop} (hw : wantedL l0 L o.guard = some false) (hd : dstOk n o.dst = true)
    (h : QOps P n w0 F H l0 rest (pushE o.dst undef L) Q) : QOps P n w0 F H l0 (o :: rest) L Q := fun a ha => by
  refine wpQuiet_step fun K hK => ?_
  rw [if_neg (by rw [wantedL_eq ha hw]; simp)]
  exact hK _ (h _ (ha.put undef hd))

/-- Slots that an environment names are not written by these operations. -/
def disjE (L : Env) : List Oper → Bool
  | [] => true
  | o :: r => (match o.dst with | some d => (L.lookup d).isNone | none => true) && disjE L r

theorem Fr.put_far {a : Act} {d : Option Nat} {v : Value} (hf : (match d with | some d => (L.lookup d).isNone | none => true) = true) (h : Fr n L a) : Fr n L (a.put d v) := by
  cases d with
  | none => exact h
  | some d =>
    refine ⟨by simp [Act.put, h.size], h.defers, fun t u hu => ?_⟩
    have hne : d ≠ t := by
      rintro rfl
      simp [hu] at hf
    simp only [Act.put, Array.getElem?_setIfInBounds_ne hne]
    exact h.get t u hu

theorem wpQuiet_frame {ops : Array Oper} {C : World → Prop} {R : Act → Prop} : ∀ {l : List Oper} {a : Act}, disjE L l = true → Fr n L a → wpQuiet P ops C R l a →
    wpQuiet P ops C (fun a' => R a' ∧ Fr n L a') l a
  | [], a, _, hf, h => ⟨h, hf⟩
  | o :: r, a, hd, hf, h => by
    simp only [disjE, Bool.and_eq_true] at hd
    unfold wpQuiet at *
    split
    · rename_i hw
      rw [if_pos hw] at h
      obtain ⟨v, h1, h2⟩ := h
      exact ⟨v, h1, wpQuiet_frame hd.2 (hf.put_far hd.1) h2⟩
    · rename_i hw
      rw [if_neg hw] at h
      exact wpQuiet_frame hd.2 (hf.put_far hd.1) h

theorem wpQuiet_mono {ops : Array Oper} {C : World → Prop} {R R' : Act → Prop} (hr : ∀ a, R a → R' a) : ∀ {l : List Oper} {a : Act}, wpQuiet P ops C R l a → wpQuiet P ops C R' l a
  | [], _, h => hr _ h
  | o :: r, a, h => by
    unfold wpQuiet at *
    split
    · rename_i hw
      rw [if_pos hw] at h
      exact Oper.quiet_mono (fun a h => wpQuiet_mono hr h) h
    · rename_i hw
      rw [if_neg hw] at h
      exact wpQuiet_mono hr h

theorem wpQuiet_append {ops : Array Oper} {C : World → Prop} {R : Act → Prop} {r : List Oper} : ∀ {l : List Oper} {a : Act}, wpQuiet P ops C (fun a' => wpQuiet P ops C R r a') l a → wpQuiet P ops C R (l ++ r) a
  | [], _, h => h
  | o :: l, a, h => by
    simp only [List.cons_append]
    unfold wpQuiet at *
    split
    · rename_i hw
      rw [if_pos hw] at h
      exact Oper.quiet_mono (fun a h => wpQuiet_append h) h
    · rename_i hw
      rw [if_neg hw] at h
      exact wpQuiet_append h


theorem QOps.st {l0 rest : List Oper} {d : Nat} {op : Op} {ty : TypeId} {pos : String} {aft : Array Edge} {g : Option (Nat × Bool)} {v : Value} {Q : Env → Prop} (hw : wantedL l0 L g = some true) (hd : Nat.blt d n = true)
    (hy : Yl P n w0 F H L ⟨some d, op, ty, pos, aft, g⟩ v) (h : QOps P n w0 F H l0 rest ((d, v) :: L) Q) : QOps P n w0 F H l0 (⟨some d, op, ty, pos, aft, g⟩ :: rest) L Q := QOps.step hw hd hy h
theorem QOps.stN {l0 rest : List Oper} {op : Op} {ty : TypeId} {pos : String} {aft : Array Edge} {g : Option (Nat × Bool)} {v : Value} {Q : Env → Prop} (hw : wantedL l0 L g = some true)
    (hy : Yl P n w0 F H L ⟨none, op, ty, pos, aft, g⟩ v) (h : QOps P n w0 F H l0 rest L Q) : QOps P n w0 F H l0 (⟨none, op, ty, pos, aft, g⟩ :: rest) L Q := QOps.step hw rfl hy h
theorem QOps.sk {l0 rest : List Oper} {d : Nat} {op : Op} {ty : TypeId} {pos : String} {aft : Array Edge} {g : Option (Nat × Bool)} {Q : Env → Prop} (hw : wantedL l0 L g = some false) (hd : Nat.blt d n = true)
    (h : QOps P n w0 F H l0 rest ((d, undef) :: L) Q) : QOps P n w0 F H l0 (⟨some d, op, ty, pos, aft, g⟩ :: rest) L Q := QOps.skip hw hd h

def skipsOk (n : Nat) (l0 : List Oper) : List Oper → Env → Bool
  | [], _ => true
  | o :: r, L => (match wantedL l0 L o.guard with | some b => !b | none => false) && dstOk n o.dst && skipsOk n l0 r (pushE o.dst undef L)

theorem wpQuiet_skips {l0 : List Oper} {C : World → Prop} : ∀ {l : List Oper} {L : Env} {a : Act}, skipsOk n l0 l L = true → Fr n L a → wpQuiet P l0.toArray C (fun _ => True) l a
  | [], _, _, _, _ => trivial
  | o :: r, L, a, h, ha => by
    simp only [skipsOk, Bool.and_eq_true] at h
    obtain ⟨⟨h1, h2⟩, h3⟩ := h
    have hw : wantedL l0 L o.guard = some false := by
      split at h1
      · rename_i b hb
        rw [hb]
        simpa using h1
      · cases h1
    unfold wpQuiet
    rw [if_neg (by rw [wantedL_eq ha hw]; simp)]
    exact wpQuiet_skips h3 (ha.put undef h2)

theorem wantedL_sub {l0 : List Oper} {L' : Env} {g : Option (Nat × Bool)} {b : Bool} (hs : SubE L L') (h : wantedL l0 L g = some b) : wantedL l0 L' g = some b := by
  unfold wantedL at *
  split
  · exact h
  · rename_i j want
    split
    · rename_i hj; simp [hj] at h
    · rename_i t ht
      simp only [ht] at h
      split at h
      · rename_i x hx; rw [hs _ _ hx]; exact h
      · rename_i x hx; rw [hs _ _ hx]; exact h
      · cases h

theorem Yv.pick {c x y : Operand} {u v : Value} {b : Bool} {ty : TypeId} {pos : String} {aft : Array Edge} {g : Option (Nat × Bool)} {d : Option Nat} (hc : ev L c = some (.bool b)) (hx : b = true → ev L x = some u) (hy : b = false → ev L y = some v) :
    Yv P n w0 F H L ⟨d, .pick c x y, ty, pos, aft, g⟩ (if b then u else v) := fun a w ha hw => by
  simp only [execOp, ha.ev hc, asBool, Sem.run_bind, Sem.run_pure, Result.andThen_ok]
  cases b
  · simp [ha.ev (hy rfl)]
  · simp [ha.ev (hx rfl)]

/-- 'c && x', 'c || x': the operations of x run where the guard says so alone; behind the pick stands ONE value. 'want' is the guard's word: true for '&&', false for '||'. -/
theorem QOps.guarded {l0 l : List Oper} {Q : Env → Prop} {m d : Nat} {b X : Bool} (want : Bool) (blk rest : List Oper) (x cx cy : Operand) {ty : TypeId} {pos : String} {aft : Array Edge} {g : Option (Nat × Bool)}
    (hl : l = blk ++ ⟨some d, .pick (.tmp m) cx cy, ty, pos, aft, g⟩ :: rest)
    (hc : (cx, cy) = (if want then (x, .const (.bool false)) else (.const (.bool true), x)))
    (hm : L.lookup m = none) (hpw : wantedL l0 L g = some true) (hpd : Nat.blt d n = true) (hdis : disjE ((m, .bool b) :: L) blk = true)
    (hsk : skipsOk n l0 blk ((m, .bool (!want)) :: L) = true)
    (hrun : b = want → QOps P n w0 F H l0 blk ((m, .bool want) :: L) (fun L' => Go.Proofs.YtlpgcbkialcjcaaGreatDoor.ev L' x = some (.bool X)))
    (h : QOps P n w0 F H l0 rest ((d, .bool (if want then b && X else b || X)) :: (m, .bool b) :: L) Q) : QOps P n w0 F H l0 l ((m, .bool b) :: L) Q := by
  intro a ha
  subst hl
  have hfirst : wpQuiet P l0.toArray (HOk w0 F H) (fun a' => (b = want → a'.eval x = .bool X) ∧ Fr n ((m, .bool b) :: L) a') blk a := by
    refine wpQuiet_frame hdis ha ?_
    by_cases hb : b = want
    · subst hb
      exact wpQuiet_mono (fun a' ⟨L', h1, h2⟩ _ => h1.ev h2) (hrun rfl a ha)
    · have hb' : b = !want := by cases b <;> cases want <;> simp_all
      subst hb'
      exact wpQuiet_mono (fun a' _ h => absurd h hb) (wpQuiet_skips hsk ha)
  refine wpQuiet_append (wpQuiet_mono (fun a' ⟨h1, h2⟩ => ?_) hfirst)
  have hsub : SubE L ((m, .bool b) :: L) := fun t v hv => by
    simp only [List.lookup]
    by_cases ht : t = m
    · subst ht; rw [hm] at hv; cases hv
    · have hb : (t == m) = false := by simpa using ht
      rw [hb]; exact hv
  have hw := wantedL_eq (o := ⟨some d, .pick (.tmp m) cx cy, ty, pos, aft, g⟩) h2 (wantedL_sub hsub hpw)
  have hev : (a'.eval (.tmp m)) = .bool b := h2.ev (by simp [Go.Proofs.YtlpgcbkialcjcaaGreatDoor.ev])
  refine wpQuiet_step fun K hK => ?_
  rw [if_pos hw]
  refine ⟨.bool (if want then b && X else b || X), fun w hw' => ?_, hK _ (h _ (h2.put (d := some d) _ (by simpa [dstOk] using hpd)))⟩
  unfold Oper.quietAt
  simp only [execOp, hev, asBool, Sem.run_bind, Sem.run_pure, Result.andThen_ok]
  refine ⟨rfl, ?_⟩
  cases want
  · simp only [Bool.false_eq_true, if_false, Prod.mk.injEq] at hc
    obtain ⟨rfl, rfl⟩ := hc
    cases b
    · simp [h1 rfl]
    · simp [Act.eval]
  · simp only [if_true, Prod.mk.injEq] at hc
    obtain ⟨rfl, rfl⟩ := hc
    cases b
    · simp [Act.eval]
    · simp [h1 rfl]

/-- 'c && x' -/
theorem QOps.and {l0 l : List Oper} {Q : Env → Prop} {m d : Nat} {b X : Bool} (blk rest : List Oper) (x : Operand) {ty : TypeId} {pos : String} {aft : Array Edge} {g : Option (Nat × Bool)}
    (hl : l = blk ++ ⟨some d, .pick (.tmp m) x (.const (.bool false)), ty, pos, aft, g⟩ :: rest)
    (hm : L.lookup m = none) (hpw : wantedL l0 L g = some true) (hpd : Nat.blt d n = true) (hdis : disjE ((m, .bool b) :: L) blk = true)
    (hsk : skipsOk n l0 blk ((m, .bool false) :: L) = true)
    (hrun : b = true → QOps P n w0 F H l0 blk ((m, .bool true) :: L) (fun L' => Go.Proofs.YtlpgcbkialcjcaaGreatDoor.ev L' x = some (.bool X)))
    (h : QOps P n w0 F H l0 rest ((d, .bool (b && X)) :: (m, .bool b) :: L) Q) : QOps P n w0 F H l0 l ((m, .bool b) :: L) Q :=
  QOps.guarded true blk rest x _ _ hl rfl hm hpw hpd hdis hsk hrun h
/-- 'c || x' -/
theorem QOps.or {l0 l : List Oper} {Q : Env → Prop} {m d : Nat} {b X : Bool} (blk rest : List Oper) (x : Operand) {ty : TypeId} {pos : String} {aft : Array Edge} {g : Option (Nat × Bool)}
    (hl : l = blk ++ ⟨some d, .pick (.tmp m) (.const (.bool true)) x, ty, pos, aft, g⟩ :: rest)
    (hm : L.lookup m = none) (hpw : wantedL l0 L g = some true) (hpd : Nat.blt d n = true) (hdis : disjE ((m, .bool b) :: L) blk = true)
    (hsk : skipsOk n l0 blk ((m, .bool true) :: L) = true)
    (hrun : b = false → QOps P n w0 F H l0 blk ((m, .bool false) :: L) (fun L' => Go.Proofs.YtlpgcbkialcjcaaGreatDoor.ev L' x = some (.bool X)))
    (h : QOps P n w0 F H l0 rest ((d, .bool (b || X)) :: (m, .bool b) :: L) Q) : QOps P n w0 F H l0 l ((m, .bool b) :: L) Q :=
  QOps.guarded false blk rest x _ _ hl rfl hm hpw hpd hdis hsk hrun h

/-! ### What a type's row of the table says -/
def layT (P : Program) (T : TypeId) : Option (Bool × Nat) :=
  match P.underlying T, P.info? T with
  | some d, some i => some ((match d with | .struct _ | .array _ _ => true | _ => false), i.size)
  | _, _ => none
def fldT (P : Program) (T : TypeId) (f : Nat) : Option Nat :=
  match P.underlying T with
  | some (.struct fs) =>
    match fs[f]? with
    | some fd => match P.info? fd.type with
      | some i => if i.size = 0 then none else some fd.offset
      | none => none
    | none => none
  | _ => none
def elT (P : Program) (t : TypeId) : Option (TypeId × Nat × Nat) :=
  match P.underlying t with
  | some (.slice e) => (P.info? e).map fun i => (e, i.size, i.bytes)
  | _ => none
def zeroT (P : Program) (T : TypeId) : Option (List Value) := (P.info? T).bind fun i => i.zero.map fun z => z.cells.toList

theorem run_isAgg {T : TypeId} {b : Bool} {s : Nat} (h : layT P T = some (b, s)) (w : World) : (isAgg T).run P w = .ok b w := by
  unfold layT at h
  split at h
  · rename_i d i hd hi
    simp only [Option.some.injEq, Prod.mk.injEq] at h
    obtain ⟨h1, _⟩ := h
    subst h1
    unfold isAgg
    rw [Sem.run_bind, run_underlying hd w]
    cases d <;> rfl
  · cases h
theorem run_sizeOf {T : TypeId} {b : Bool} {s : Nat} (h : layT P T = some (b, s)) (w : World) : (sizeOf T).run P w = .ok s w := by
  unfold layT at h
  split at h
  · rename_i d i hd hi
    simp only [Option.some.injEq, Prod.mk.injEq] at h
    obtain ⟨_, h2⟩ := h
    subst h2
    simp [sizeOf, typeInfo, hi]
  · cases h

/-! ### Addresses and slices that are read -/
def adr (A : Option Addr) : Addr := A.getD ⟨0, 0, none⟩
theorem add_block (a : Addr) (i : Nat) : (a.add i).block = a.block := by unfold Addr.add; split <;> rfl
theorem add_add' (a : Addr) (i j : Nat) : (a.add i).add j = a.add (i + j) := by
  unfold Addr.add
  by_cases hi : i = 0 <;> by_cases hj : j = 0 <;> simp [hi, hj, Nat.add_assoc]
theorem add_row (g i : Nat) : (⟨g, 0, none⟩ : Addr).add i = ⟨g, i, none⟩ := by unfold Addr.add; split <;> simp_all

structure Sl (w : World) (sz : Nat) (A : Option Addr) (n c : Nat) (xs : List Value) : Prop where
  len : xs.length = n * sz
  cap : n ≤ c
  max : c ≤ maxLen
  at_ : 0 < n → A.isSome = true ∧ (adr A).block < w.heap.size ∧ ∀ j u, xs[j]? = some u → w.cell? ((adr A).add j) = some u

theorem Sl.below {w w' : World} {sz : Nat} {A : Option Addr} {m c : Nat} {xs : List Value} (h : Sl w sz A m c xs) (hb : Below w.heap.size w w') : Sl w' sz A m c xs :=
  ⟨h.len, h.cap, h.max, fun hn => by
    obtain ⟨h1, h2, h3⟩ := h.at_ hn
    exact ⟨h1, Nat.lt_of_lt_of_le h2 hb.size, fun j u hu => (hb.cell (by rw [add_block]; exact h2)).trans (h3 j u hu)⟩⟩

/-- Readable in every world of the class. -/
def Rd (w0 : World) (F : List Nat) (H : List HEnt) (sz : Nat) (A : Option Addr) (n c : Nat) (xs : List Value) : Prop := ∀ w, HOk w0 F H w → Sl w sz A n c xs
theorem Sl.bel {w w' : World} {F : List Nat} {sz : Nat} {A : Option Addr} {m c : Nat} {xs : List Value} (h : Sl w sz A m c xs) (hb : Bel F w w') (hF : (adr A).block ∉ F) : Sl w' sz A m c xs :=
  ⟨h.len, h.cap, h.max, fun hn => by
    obtain ⟨h1, h2, h3⟩ := h.at_ hn
    exact ⟨h1, Nat.lt_of_lt_of_le h2 hb.size, fun j u hu => (World.cell?_of_block (hb.block _ (by rw [add_block]; exact h2) (by rw [add_block]; exact hF))).trans (h3 j u hu)⟩⟩
theorem Rd.arg {sz : Nat} {A : Option Addr} {m c : Nat} {xs : List Value} (h : Sl w0 sz A m c xs) : Rd w0 [] H sz A m c xs := fun _ hw => h.bel hw.bel (by simp)
theorem Rd.argF {sz : Nat} {A : Option Addr} {m c : Nat} {xs : List Value} (h : Sl w0 sz A m c xs) (hF : (adr A).block ∉ F) : Rd w0 F H sz A m c xs := fun _ hw => h.bel hw.bel hF
theorem sl_of_row {w : World} {A : Option Addr} {c : Nat} {T : TypeId} {sz m : Nat} {xs : List Value} (h : (HEnt.row A c T sz m xs).ok w) : Sl w sz A m c xs := by
  have h' : w.ownsRow 0 T sz (.slice A m c) m xs := h
  rcases h'.2 with ⟨h0, hm⟩ | ⟨g, cap, cur, hv, _, hg, hnc, hcm, _⟩
  · simp only [Value.slice.injEq] at h0
    obtain ⟨_, _, rfl⟩ := h0
    exact ⟨h'.1, by omega, by simp [maxLen], fun hn => by omega⟩
  · simp only [Value.slice.injEq] at hv
    obtain ⟨rfl, _, rfl⟩ := hv
    refine ⟨h'.1, hnc, hcm, fun _ => ⟨rfl, (Array.getElem?_eq_some_iff.1 hg).1, fun j u hu => ?_⟩⟩
    exact World.ownsRow.cells h' (g := g) rfl j u hu
theorem Rd.row {i : Nat} {A : Option Addr} {c : Nat} {T : TypeId} {sz m : Nat} {xs : List Value} (hi : H[i]? = some (.row A c T sz m xs)) : Rd w0 F H sz A m c xs :=
  fun _ hw => sl_of_row (hw.ent _ (List.mem_of_getElem? hi))
theorem Rd.mono {H' : List HEnt} {sz : Nat} {A : Option Addr} {m c : Nat} {xs : List Value} (h : Rd w0 F H sz A m c xs) (hs : H.Sublist H') : Rd w0 F H' sz A m c xs := fun _ hw => h _ (hw.sub hs)
theorem Rd.nil_ {sz : Nat} : Rd w0 F H sz none 0 0 [] := fun _ _ => ⟨by simp, Nat.le_refl _, Nat.zero_le _, fun h => absurd h (by omega)⟩

/-- 's[l:h]' -/
def cutA (A : Option Addr) (c l sz : Nat) : Option Addr := if c = l then A else A.map (·.add (l * sz))
theorem Sl.cut {w : World} {sz : Nat} {A : Option Addr} {m c l h : Nat} {xs : List Value} (hs : Sl w sz A m c xs) (hl : l ≤ h) (hh : h ≤ m) :
    Sl w sz (cutA A c l sz) (h - l) (c - l) ((xs.drop (l * sz)).take ((h - l) * sz)) := by
  have hc := hs.cap
  have e : (h - l) * sz + l * sz ≤ m * sz := by rw [← Nat.add_mul]; exact Nat.mul_le_mul_right _ (by omega)
  refine ⟨?_, by omega, by have := hs.max; omega, fun hn => ?_⟩
  · rw [List.length_take, List.length_drop, hs.len]; omega
  · obtain ⟨h1, h2, h3⟩ := hs.at_ (by omega)
    cases A with
    | none => simp at h1
    | some a =>
      have hne : ¬ c = l := by omega
      simp only [cutA, if_neg hne, adr, Option.map_some, Option.getD_some] at *
      refine ⟨rfl, by rw [add_block]; exact h2, fun j u hu => ?_⟩
      rw [add_add']
      refine h3 _ u ?_
      rw [List.getElem?_take] at hu
      split at hu
      · rwa [List.getElem?_drop] at hu
      · cases hu
theorem Rd.cut {sz : Nat} {A : Option Addr} {m c l h : Nat} {xs : List Value} (hs : Rd w0 F H sz A m c xs) (hl : l ≤ h) (hh : h ≤ m) :
    Rd w0 F H sz (cutA A c l sz) (h - l) (c - l) ((xs.drop (l * sz)).take ((h - l) * sz)) := fun w hw => (hs w hw).cut hl hh

/-! ### Lists of encoded elements -/
def nth {α : Type} [Inhabited α] (l : List α) (k : Nat) : α := l.getD k default
theorem nth_get {α : Type} [Inhabited α] {l : List α} {k : Nat} (h : k < l.length) : l[k]? = some (nth l k) := by simp [nth, h]
theorem flat_get {α : Type} {enc : α → List Value} {sz : Nat} (henc : ∀ x, (enc x).length = sz) : ∀ (l : List α) (k f : Nat), f < sz → (l.flatMap enc)[k * sz + f]? = (l[k]?).bind fun x => (enc x)[f]?
  | [], k, f, _ => by simp
  | x :: l, 0, f, hf => by simp [List.flatMap_cons, List.getElem?_append_left, henc, hf]
  | x :: l, k + 1, f, hf => by
    rw [List.flatMap_cons, List.getElem?_append_right (by rw [henc, Nat.add_mul]; omega), henc, List.getElem?_cons_succ, ← flat_get henc l k f hf]
    congr 1
    rw [Nat.add_mul]; omega
theorem flat_len {α : Type} {enc : α → List Value} {sz : Nat} (henc : ∀ x, (enc x).length = sz) : ∀ l : List α, (l.flatMap enc).length = l.length * sz
  | [] => by simp
  | x :: l => by rw [List.flatMap_cons, List.length_append, henc, flat_len henc l, List.length_cons, Nat.add_mul]; omega
theorem flat_drop {α : Type} {enc : α → List Value} {sz : Nat} (henc : ∀ x, (enc x).length = sz) : ∀ (l : List α) (k : Nat), (l.flatMap enc).drop (k * sz) = (l.drop k).flatMap enc
  | [], k => by simp
  | x :: l, 0 => by simp
  | x :: l, k + 1 => by
    rw [List.flatMap_cons, List.drop_succ_cons, ← flat_drop henc l k, List.drop_append, henc]
    have : (k + 1) * sz - sz = k * sz := by rw [Nat.add_mul]; omega
    rw [this, List.drop_of_length_le (by rw [henc, Nat.add_mul]; omega), List.nil_append]
theorem flat_take {α : Type} {enc : α → List Value} {sz : Nat} (henc : ∀ x, (enc x).length = sz) : ∀ (l : List α) (k : Nat), (l.flatMap enc).take (k * sz) = (l.take k).flatMap enc
  | [], k => by simp
  | x :: l, 0 => by simp
  | x :: l, k + 1 => by
    rw [List.flatMap_cons, List.take_succ_cons, List.flatMap_cons, ← flat_take henc l k, List.take_append, henc]
    have : (k + 1) * sz - sz = k * sz := by rw [Nat.add_mul]; omega
    rw [this, List.take_of_length_le (by rw [henc, Nat.add_mul]; omega)]
theorem flat_set {α : Type} {enc : α → List Value} {sz : Nat} (henc : ∀ x, (enc x).length = sz) (x : α) : ∀ (l : List α) (k : Nat), k < l.length →
    (l.set k x).flatMap enc = (l.flatMap enc).take (k * sz) ++ enc x ++ (l.flatMap enc).drop (k * sz + sz)
  | [], k, h => by simp at h
  | y :: l, 0, _ => by simp [List.flatMap_cons, henc]
  | y :: l, k + 1, h => by
    have e1 : (k + 1) * sz - sz = k * sz := by rw [Nat.add_mul]; omega
    have e2 : (k + 1) * sz + sz - sz = k * sz + sz := by rw [Nat.add_mul]; omega
    have ht : (enc y ++ l.flatMap enc).take ((k + 1) * sz) = enc y ++ (l.flatMap enc).take (k * sz) := by rw [List.take_append, henc, e1, List.take_of_length_le (by rw [henc, Nat.add_mul]; omega)]
    have hd : (enc y ++ l.flatMap enc).drop ((k + 1) * sz + sz) = (l.flatMap enc).drop (k * sz + sz) := by rw [List.drop_append, henc, e2, List.drop_of_length_le (by rw [henc, Nat.add_mul]; omega), List.nil_append]
    rw [List.set_cons_succ, List.flatMap_cons, List.flatMap_cons, ht, hd, flat_set henc x l k (by simpa using h)]
    simp
theorem Rd.cutT {α : Type} {enc : α → List Value} {sz : Nat} {A : Option Addr} {m c l h : Nat} {xs : List α} (henc : ∀ x, (enc x).length = sz) (hs : Rd w0 F H sz A m c (xs.flatMap enc)) (hl : l ≤ h) (hh : h ≤ m) :
    Rd w0 F H sz (cutA A c l sz) (h - l) (c - l) (((xs.drop l).take (h - l)).flatMap enc) := by
  have := hs.cut hl hh
  rwa [flat_drop henc, flat_take henc] at this

/-! ### The quiet operations, one rule each -/
section
variable {ty : TypeId} {pos : String} {aft : Array Edge} {g : Option (Nat × Bool)} {d : Option Nat} {T T' : TypeId} {x y : Operand}

theorem Yv.move {v : Value} (h : ev L x = some v) : Yv P n w0 F H L ⟨d, .move x, ty, pos, aft, g⟩ v := fun a w ha hw => by simp [execOp, ha.ev h]
theorem Yv.assign {v : Value} (h : ev L x = some v) : Yv P n w0 F H L ⟨d, .assign x, ty, pos, aft, g⟩ v := fun a w ha hw => by simp [execOp, ha.ev h]

theorem Yv.lss {k : IntKind} {i j : Int} (hx : ev L x = some (.int k i)) (hy : ev L y = some (.int k j)) : Yv P n w0 F H L ⟨d, .binOp .lss T x y T', ty, pos, aft, g⟩ (.bool (decide (i < j))) := fun a w ha hw => by simp [execOp, ha.ev hx, ha.ev hy, eqGuard_lss, binOp_lss]
theorem Yv.leq {k : IntKind} {i j : Int} (hx : ev L x = some (.int k i)) (hy : ev L y = some (.int k j)) : Yv P n w0 F H L ⟨d, .binOp .leq T x y T', ty, pos, aft, g⟩ (.bool (decide (i ≤ j))) := fun a w ha hw => by simp [execOp, ha.ev hx, ha.ev hy, eqGuard_leq, binOp_leq]
theorem Yv.gtr {k : IntKind} {i j : Int} (hx : ev L x = some (.int k i)) (hy : ev L y = some (.int k j)) : Yv P n w0 F H L ⟨d, .binOp .gtr T x y T', ty, pos, aft, g⟩ (.bool (decide (j < i))) := fun a w ha hw => by simp [execOp, ha.ev hx, ha.ev hy, eqGuard_gtr, binOp_gtr]
theorem Yv.geq {k : IntKind} {i j : Int} (hx : ev L x = some (.int k i)) (hy : ev L y = some (.int k j)) : Yv P n w0 F H L ⟨d, .binOp .geq T x y T', ty, pos, aft, g⟩ (.bool (decide (j ≤ i))) := fun a w ha hw => by simp [execOp, ha.ev hx, ha.ev hy, eqGuard_geq, binOp_geq]
theorem Yv.eqI {k : IntKind} {i j : Int} (hx : ev L x = some (.int k i)) (hy : ev L y = some (.int k j)) : Yv P n w0 F H L ⟨d, .binOp .eql T x y T', ty, pos, aft, g⟩ (.bool (decide (i = j))) := fun a w ha hw => by simp [execOp, ha.ev hx, ha.ev hy, eqGuard_at_int, binOp_eql]; rfl
theorem Yv.neI {k : IntKind} {i j : Int} (hx : ev L x = some (.int k i)) (hy : ev L y = some (.int k j)) : Yv P n w0 F H L ⟨d, .binOp .neq T x y T', ty, pos, aft, g⟩ (.bool (!decide (i = j))) := fun a w ha hw => by simp [execOp, ha.ev hx, ha.ev hy, eqGuard_at_int, binOp_neq]; rfl
theorem run_equal_bool {w : World} {i j : Bool} (hT : P.underlying T = some .bool) : (Op.equal T (.bool i) (.bool j)).run P w = .ok (i == j) w := by
  have h : ∀ d : Nat, (Op.equalIn (d + 1) T (.bool i) (.bool j)).run P w = .ok (i == j) w := fun d => by simp [Op.equalIn, run_underlying hT]
  exact h 9999
theorem Yv.eqB {i j : Bool} (hT : P.underlying T = some .bool) (hx : ev L x = some (.bool i)) (hy : ev L y = some (.bool j)) : Yv P n w0 F H L ⟨d, .binOp .eql T x y T', ty, pos, aft, g⟩ (.bool (i == j)) := fun a w ha hw => by
  have e : binOp .eql T (.bool i) (.bool j) = (do pure (.bool (← Op.equal T (.bool i) (.bool j)))) := rfl
  simp only [execOp, ha.ev hx, ha.ev hy, eqGuard_at_bool, e, Sem.run_bind, run_equal_bool hT, Sem.run_pure, Result.andThen_ok]
theorem Yv.neB {i j : Bool} (hT : P.underlying T = some .bool) (hx : ev L x = some (.bool i)) (hy : ev L y = some (.bool j)) : Yv P n w0 F H L ⟨d, .binOp .neq T x y T', ty, pos, aft, g⟩ (.bool (!(i == j))) := fun a w ha hw => by
  have e : binOp .neq T (.bool i) (.bool j) = (do pure (.bool (!(← Op.equal T (.bool i) (.bool j))))) := rfl
  simp only [execOp, ha.ev hx, ha.ev hy, eqGuard_at_bool, e, Sem.run_bind, run_equal_bool hT, Sem.run_pure, Result.andThen_ok]
theorem Yv.addW {k : IntKind} {i j : Int} (hx : ev L x = some (.int k i)) (hy : ev L y = some (.int k j)) : Yv P n w0 F H L ⟨d, .binOp .add T x y T', ty, pos, aft, g⟩ (.int k (k.wrap (i + j))) := fun a w ha hw => by simp [execOp, ha.ev hx, ha.ev hy, eqGuard_add, binOp_add, Op.intArith]
theorem Yv.subW {k : IntKind} {i j : Int} (hx : ev L x = some (.int k i)) (hy : ev L y = some (.int k j)) : Yv P n w0 F H L ⟨d, .binOp .sub T x y T', ty, pos, aft, g⟩ (.int k (k.wrap (i - j))) := fun a w ha hw => by simp [execOp, ha.ev hx, ha.ev hy, eqGuard_sub, binOp_sub, Op.intArith]
theorem Yv.mulW {k : IntKind} {i j : Int} (hx : ev L x = some (.int k i)) (hy : ev L y = some (.int k j)) : Yv P n w0 F H L ⟨d, .binOp .mul T x y T', ty, pos, aft, g⟩ (.int k (k.wrap (i * j))) := fun a w ha hw => by simp [execOp, ha.ev hx, ha.ev hy, eqGuard_mul, binOp_mul, Op.intArith]
theorem wrap_fit {i : Int} (h1 : -9223372036854775808 ≤ i) (h2 : i ≤ 9223372036854775807) : IntKind.i64.wrap i = i := by rw [IntKind.wrap_i64]; omega
theorem Yv.add {i j : Int} (hx : ev L x = some (.int .i64 i)) (hy : ev L y = some (.int .i64 j)) (h : -9223372036854775808 ≤ i + j ∧ i + j ≤ 9223372036854775807) : Yv P n w0 F H L ⟨d, .binOp .add T x y T', ty, pos, aft, g⟩ (.int .i64 (i + j)) := by
  have := Yv.addW (P := P) (n := n) (w0 := w0) (F := F) (H := H) (ty := ty) (pos := pos) (aft := aft) (g := g) (d := d) (T := T) (T' := T') hx hy
  rwa [wrap_fit h.1 h.2] at this
theorem Yv.sub {i j : Int} (hx : ev L x = some (.int .i64 i)) (hy : ev L y = some (.int .i64 j)) (h : -9223372036854775808 ≤ i - j ∧ i - j ≤ 9223372036854775807) : Yv P n w0 F H L ⟨d, .binOp .sub T x y T', ty, pos, aft, g⟩ (.int .i64 (i - j)) := by
  have := Yv.subW (P := P) (n := n) (w0 := w0) (F := F) (H := H) (ty := ty) (pos := pos) (aft := aft) (g := g) (d := d) (T := T) (T' := T') hx hy
  rwa [wrap_fit h.1 h.2] at this
theorem Yv.mul {i j : Int} (hx : ev L x = some (.int .i64 i)) (hy : ev L y = some (.int .i64 j)) (h : -9223372036854775808 ≤ i * j ∧ i * j ≤ 9223372036854775807) : Yv P n w0 F H L ⟨d, .binOp .mul T x y T', ty, pos, aft, g⟩ (.int .i64 (i * j)) := by
  have := Yv.mulW (P := P) (n := n) (w0 := w0) (F := F) (H := H) (ty := ty) (pos := pos) (aft := aft) (g := g) (d := d) (T := T) (T' := T') hx hy
  rwa [wrap_fit h.1 h.2] at this
/-- A counter that goes up. -/
theorem Yv.succN {k : Nat} (hx : ev L x = some (.int .i64 (k : Int))) (hy : ev L y = some (.int .i64 1)) (h : k < 9223372036854775807) : Yv P n w0 F H L ⟨d, .binOp .add T x y T', ty, pos, aft, g⟩ (.int .i64 ((k + 1 : Nat) : Int)) := by
  have := Yv.add (P := P) (n := n) (w0 := w0) (F := F) (H := H) (ty := ty) (pos := pos) (aft := aft) (g := g) (d := d) (T := T) (T' := T') hx hy (by omega)
  simpa using this
theorem Yv.quo {k : IntKind} {i j : Int} (hx : ev L x = some (.int k i)) (hy : ev L y = some (.int k j)) (hj : j ≠ 0) : Yv P n w0 F H L ⟨d, .binOp .quo T x y T', ty, pos, aft, g⟩ (.int k (k.wrap (i.tdiv j))) := fun a w ha hw => by simp [execOp, ha.ev hx, ha.ev hy, eqGuard_quo, binOp_quo, Op.intDiv, hj]
theorem Yv.rem {k : IntKind} {i j : Int} (hx : ev L x = some (.int k i)) (hy : ev L y = some (.int k j)) (hj : j ≠ 0) : Yv P n w0 F H L ⟨d, .binOp .rem T x y T', ty, pos, aft, g⟩ (.int k (i.tmod j)) := fun a w ha hw => by simp [execOp, ha.ev hx, ha.ev hy, eqGuard_rem, binOp_rem, Op.intDiv, hj]
theorem Yv.not {b : Bool} (hx : ev L x = some (.bool b)) : Yv P n w0 F H L ⟨d, .unOp .not T x, ty, pos, aft, g⟩ (.bool (!b)) := fun a w ha hw => by simp [execOp, ha.ev hx, Op.unary]
theorem Yv.negW {k : IntKind} {i : Int} (hx : ev L x = some (.int k i)) : Yv P n w0 F H L ⟨d, .unOp .neg T x, ty, pos, aft, g⟩ (.int k (k.wrap (0 - i))) := fun a w ha hw => by simp [execOp, ha.ev hx, Op.unary, Op.intArith]
theorem Yv.neg {i : Int} (hx : ev L x = some (.int .i64 i)) (h : -9223372036854775807 ≤ i ∧ i ≤ 9223372036854775807) : Yv P n w0 F H L ⟨d, .unOp .neg T x, ty, pos, aft, g⟩ (.int .i64 (-i)) := by
  have := Yv.negW (P := P) (n := n) (w0 := w0) (F := F) (H := H) (ty := ty) (pos := pos) (aft := aft) (g := g) (d := d) (T := T) hx
  rwa [wrap_fit (by omega) (by omega), Int.zero_sub] at this

/-- The operands' values. -/
inductive Evs (L : Env) : List Operand → List Value → Prop
  | nil : Evs L [] []
  | cons {x : Operand} {v : Value} {xs : List Operand} {vs : List Value} (h : ev L x = some v) (hs : Evs L xs vs) : Evs L (x :: xs) (v :: vs)
theorem Evs.map {a : Act} (ha : Fr n L a) : ∀ {xs : List Operand} {vs : List Value}, Evs L xs vs → xs.map a.eval = vs
  | _, _, .nil => rfl
  | _, _, .cons h hs => by simp [ha.ev h, Evs.map ha hs]

theorem Yv.lenS {A : Option Addr} {m c : Nat} (hT : (elT P T).isSome = true) (hx : ev L x = some (.slice A m c)) :
    Yv P n w0 F H L ⟨d, .call { callee := .builtin .len, args := #[x], argTypes := #[T] }, ty, pos, aft, g⟩ (.int .i64 (m : Int)) := fun a w ha hw => by
  obtain ⟨e, he⟩ : ∃ e, P.underlying T = some (.slice e) := by
    unfold elT at hT
    split at hT
    · rename_i e he; exact ⟨e, he⟩
    · simp at hT
  simp [execOp, resolve, invoke, builtin, ha.ev hx, Builtin.len_, run_underlying he, goInt]
theorem Yv.max2 {ts : Array TypeId} {k : IntKind} {i j : Int} (hx : ev L x = some (.int k i)) (hy : ev L y = some (.int k j)) :
    Yv P n w0 F H L ⟨d, .call { callee := .builtin .max, args := #[x, y], argTypes := ts }, ty, pos, aft, g⟩ (.int k (max i j)) := fun a w ha hw => by
  simp only [execOp, resolve, invoke, builtin, Sem.run_bind, Sem.run_pure, Result.andThen_ok, List.map_toArray, List.map_cons, List.map_nil, ha.ev hx, ha.ev hy, Builtin.max_, List.foldlM, Builtin.max2]
  congr 3
  omega
theorem Yv.min2 {ts : Array TypeId} {k : IntKind} {i j : Int} (hx : ev L x = some (.int k i)) (hy : ev L y = some (.int k j)) :
    Yv P n w0 F H L ⟨d, .call { callee := .builtin .min, args := #[x, y], argTypes := ts }, ty, pos, aft, g⟩ (.int k (min i j)) := fun a w ha hw => by
  simp only [execOp, resolve, invoke, builtin, Sem.run_bind, Sem.run_pure, Result.andThen_ok, List.map_toArray, List.map_cons, List.map_nil, ha.ev hx, ha.ev hy, Builtin.min_, List.foldlM, Builtin.min2]
  congr 3
  omega

theorem Yv.fieldAddr {p : Addr} {f off : Nat} (hT : fldT P T f = some off) (hx : ev L x = some (.pointer (some p))) :
    Yv P n w0 F H L ⟨d, .fieldAddr T x f, ty, pos, aft, g⟩ (.pointer (some (p.add off))) := fun a w ha hw => by
  unfold fldT at hT
  split at hT
  · rename_i fs hu
    split at hT
    · rename_i fd hfd
      split at hT
      · rename_i i hi
        split at hT
        · cases hT
        · rename_i hsz
          simp only [Option.some.injEq] at hT
          subst hT
          simp [execOp, ha.ev hx, Instr.fieldAt, run_underlying hu, hfd, Instr.sureAddr, fieldPlace, sizeOf, typeInfo, hi, hsz]
      · cases hT
    · cases hT
  · cases hT

theorem Yv.indexAddr {A : Option Addr} {m c sz by_ : Nat} {e : TypeId} {xs : List Value} {ix : Int} (k : Nat) (hT : elT P T = some (e, sz, by_)) (hx : ev L x = some (.slice A m c)) (hy : ev L y = some (.int .i64 ix)) (hk : ix = (k : Int))
    (hr : Rd w0 F H sz A m c xs) (hkm : k < m) : Yv P n w0 F H L ⟨d, .indexAddr T x y, ty, pos, aft, g⟩ (.pointer (some ((adr A).add (k * sz)))) := fun a w ha hw => by
  obtain ⟨h1, _, _⟩ := (hr w hw).at_ (by omega)
  cases A with
  | none => simp at h1
  | some ad =>
    subst hk
    unfold elT at hT
    split at hT
    · rename_i e' he
      cases hi : P.info? e' with
      | none => simp [hi] at hT
      | some i =>
        simp only [hi, Option.map_some, Option.some.injEq, Prod.mk.injEq] at hT
        obtain ⟨rfl, rfl, rfl⟩ := hT
        have hb : (k : Int) < (m : Int) := by omega
        simp [execOp, ha.ev hx, ha.ev hy, Instr.indexAt, asIntOf, run_underlying he, hkm, sizeOf, typeInfo, hi, adr]
    · cases hT

theorem run_loadVar_scalar {w : World} {p : Addr} {v : Value} (hT : layT P T = some (false, 1)) (hc : w.cell? p = some v) : (loadVar T p).run P w = .ok v w := by
  simp [loadVar, run_isAgg hT, hc]
theorem run_loadVar_agg {w : World} {p : Addr} {s : Nat} {cs : List Value} (hT : layT P T = some (true, s)) (hs : cs.length = s) (hc : ∀ j v, cs[j]? = some v → w.cell? (p.add j) = some v) : (loadVar T p).run P w = .ok (.agg cs.toArray) w := by
  have := run_loadCells_list (P := P) w p cs hc
  rw [hs] at this
  simp [loadVar, run_isAgg hT, run_sizeOf hT, this]

/-- A field of one of the call's own variables. -/
theorem Yv.loadB {p : Addr} {b off i : Nat} {cs : List Value} {v : Value} (hT : layT P T = some (false, 1)) (hx : ev L x = some (.pointer (some p))) (hi : H[i]? = some (.blk b T' cs)) (hp : p = ⟨b, off, none⟩) (hv : cs[off]? = some v) :
    Yv P n w0 F H L ⟨d, .load T x, ty, pos, aft, g⟩ v := fun a w ha hw => by
  subst hp
  have hb := hw.ent _ (List.mem_of_getElem? hi)
  have hc : w.cell? ⟨b, off, none⟩ = some v := by rw [cell_of_row w b off _ _ _ hb]; simpa using hv
  simp [execOp, ha.ev hx, Instr.loadAt, Instr.sureAddr, run_loadVar_scalar hT hc]
/-- One of the call's own variables, whole. -/
theorem Yv.loadBs {p : Addr} {b i s : Nat} {cs : List Value} (hT : layT P T = some (true, s)) (hx : ev L x = some (.pointer (some p))) (hi : H[i]? = some (.blk b T' cs)) (hp : p = ⟨b, 0, none⟩) (hs : cs.length = s) :
    Yv P n w0 F H L ⟨d, .load T x, ty, pos, aft, g⟩ (.agg cs.toArray) := fun a w ha hw => by
  subst hp
  have hb := hw.ent _ (List.mem_of_getElem? hi)
  have hc : ∀ j v, cs[j]? = some v → w.cell? ((⟨b, 0, none⟩ : Addr).add j) = some v := fun j v hv => by
    rw [add_row, cell_of_row w b j _ _ _ hb]; simpa using hv
  simp [execOp, ha.ev hx, Instr.loadAt, Instr.sureAddr, run_loadVar_agg hT hs hc]
/-- A field of an element. -/
theorem Yv.loadF {α : Type} [Inhabited α] {enc : α → List Value} {A : Option Addr} {m c sz k f : Nat} {l : List α} {v : Value} (hT : layT P T = some (false, 1)) (hx : ev L x = some (.pointer (some (((adr A).add (k * sz)).add f))))
    (henc : ∀ x, (enc x).length = sz) (hr : Rd w0 F H sz A m c (l.flatMap enc)) (hk : k < l.length) (hf : f < sz) (hv : (enc (nth l k))[f]? = some v) : Yv P n w0 F H L ⟨d, .load T x, ty, pos, aft, g⟩ v := fun a w ha hw => by
  have hs := hr w hw
  have hm : 0 < m := by
    have h1 := hs.len
    rw [flat_len henc] at h1
    rcases Nat.eq_zero_or_pos m with h0 | h0
    · subst h0
      have : 0 < l.length * sz := Nat.mul_pos (by omega) (by omega)
      omega
    · exact h0
  have hc : w.cell? (((adr A).add (k * sz)).add f) = some v := by
    rw [add_add']
    exact (hs.at_ hm).2.2 _ _ (by rw [flat_get henc _ _ _ hf, nth_get hk]; exact hv)
  simp [execOp, ha.ev hx, Instr.loadAt, Instr.sureAddr, run_loadVar_scalar hT hc]
/-- An element that is one cell. -/
theorem Yv.loadE {α : Type} [Inhabited α] {enc : α → List Value} {A : Option Addr} {m c k : Nat} {l : List α} {v : Value} (hT : layT P T = some (false, 1)) (hx : ev L x = some (.pointer (some ((adr A).add (k * 1)))))
    (henc : ∀ x, (enc x).length = 1) (hr : Rd w0 F H 1 A m c (l.flatMap enc)) (hk : k < l.length) (hv : (enc (nth l k))[0]? = some v) : Yv P n w0 F H L ⟨d, .load T x, ty, pos, aft, g⟩ v :=
  Yv.loadF (f := 0) hT (by rw [add_add', Nat.add_zero]; exact hx) henc hr hk (by omega) hv
/-- An element, whole. -/
theorem Yv.loadEs {α : Type} [Inhabited α] {enc : α → List Value} {A : Option Addr} {m c sz k : Nat} {l : List α} (hT : layT P T = some (true, sz)) (hx : ev L x = some (.pointer (some ((adr A).add (k * sz)))))
    (henc : ∀ x, (enc x).length = sz) (hr : Rd w0 F H sz A m c (l.flatMap enc)) (hk : k < l.length) (hz : 0 < sz) : Yv P n w0 F H L ⟨d, .load T x, ty, pos, aft, g⟩ (.agg (enc (nth l k)).toArray) := fun a w ha hw => by
  have hs := hr w hw
  have hm : 0 < m := by
    have h1 := hs.len
    rw [flat_len henc] at h1
    rcases Nat.eq_zero_or_pos m with h0 | h0
    · subst h0
      have : 0 < l.length * sz := Nat.mul_pos (by omega) (by omega)
      omega
    · exact h0
  have hc : ∀ j v, (enc (nth l k))[j]? = some v → w.cell? (((adr A).add (k * sz)).add j) = some v := fun j v hv => by
    rw [add_add']
    have hj : j < sz := by have := (List.getElem?_eq_some_iff.1 hv).1; rwa [henc] at this
    exact (hs.at_ hm).2.2 _ _ (by rw [flat_get henc _ _ _ hj, nth_get hk]; exact hv)
  simp [execOp, ha.ev hx, Instr.loadAt, Instr.sureAddr, run_loadVar_agg hT (henc _) hc]
/-- A field of a struct that is held as a value. -/
theorem Yv.field {cs : List Value} {f off : Nat} {fs : Array Field} {fd : Field} {v : Value} (hu : P.underlying T = some (.struct fs)) (hf : fs[f]? = some fd) (hl : layT P fd.type = some (false, 1)) (ho : fd.offset = off) (hx : ev L x = some (.agg cs.toArray)) (hv : cs[off]? = some v) :
    Yv P n w0 F H L ⟨d, .field T x f, ty, pos, aft, g⟩ v := fun a w ha hw => by
  subst ho
  simp [execOp, ha.ev hx, Instr.field, run_underlying hu, hf, asAgg, part, run_isAgg hl, hv]
theorem Yv.extract {vs : List Value} {i : Nat} {v : Value} (hx : ev L x = some (.tuple vs.toArray)) (hv : vs[i]? = some v) : Yv P n w0 F H L ⟨d, .extract x i, ty, pos, aft, g⟩ v := fun a w ha hw => by
  simp [execOp, ha.ev hx, Instr.extract, hv]
theorem Yv.makeFunc {fn : Fn} {fs cs : List Operand} {us vs : List Value} (h1 : Evs L fs us) (h2 : Evs L cs vs) : Yv P n w0 F H L ⟨d, .makeFunc fn fs.toArray cs.toArray, ty, pos, aft, g⟩ (.func fn us.toArray vs.toArray) := fun a w ha hw => by
  simp [execOp, Instr.makeFunc, h1.map ha, h2.map ha]

/-- 's[lo:]' of a readable slice; the new slice reads by Rd.cut. -/
theorem Yv.cutFrom {lo : Operand} {A : Option Addr} {m c sz by_ : Nat} {e : TypeId} {ix : Int} (k : Nat) (hT : elT P T = some (e, sz, by_)) (hx : ev L x = some (.slice A m c)) (hl : ev L lo = some (.int .i64 ix)) (hk : ix = (k : Int)) (hkm : k ≤ m) :
    Yv P n w0 F H L ⟨d, .slice T x (some lo) none none, ty, pos, aft, g⟩ (.slice (cutA A c k sz) (m - k) (c - k)) := fun a w ha hw => by
  subst hk
  unfold elT at hT
  split at hT
  · rename_i e' he
    cases hi : P.info? e' with
    | none => simp [hi] at hT
    | some i =>
      simp only [hi, Option.map_some, Option.some.injEq, Prod.mk.injEq] at hT
      obtain ⟨rfl, rfl, rfl⟩ := hT
      have hb : (k : Int) ≤ (m : Int) := by omega
      simp [execOp, ha.ev hx, ha.ev hl, Instr.sliceAt, Instr.slice, run_underlying he, Instr.sliceBounds, Instr.sliceBound, asIntOf, hkm, sizeOf, typeInfo, hi, cutA]
  · cases hT
/-- 's[:hi]' -/
theorem Yv.cutTo {hi : Operand} {A : Option Addr} {m c sz by_ : Nat} {e : TypeId} {ix : Int} (k : Nat) (hT : elT P T = some (e, sz, by_)) (hx : ev L x = some (.slice A m c)) (hh : ev L hi = some (.int .i64 ix)) (hk : ix = (k : Int)) (hkm : k ≤ c) :
    Yv P n w0 F H L ⟨d, .slice T x none (some hi) none, ty, pos, aft, g⟩ (.slice (cutA A c 0 sz) (k - 0) (c - 0)) := fun a w ha hw => by
  subst hk
  unfold elT at hT
  split at hT
  · rename_i e' he
    cases hi : P.info? e' with
    | none => simp [hi] at hT
    | some i =>
      simp only [hi, Option.map_some, Option.some.injEq, Prod.mk.injEq] at hT
      obtain ⟨rfl, rfl, rfl⟩ := hT
      simp [execOp, ha.ev hx, ha.ev hh, Instr.sliceAt, Instr.slice, run_underlying he, Instr.sliceBounds, Instr.sliceBound, asIntOf, hkm, sizeOf, typeInfo, hi, cutA]
  · cases hT
/-- 's[lo:hi]' -/
theorem Yv.cutBoth {lo hi : Operand} {A : Option Addr} {m c sz by_ : Nat} {e : TypeId} {ix jx : Int} (k j : Nat) (hT : elT P T = some (e, sz, by_)) (hx : ev L x = some (.slice A m c)) (hl : ev L lo = some (.int .i64 ix)) (hh : ev L hi = some (.int .i64 jx)) (hk : ix = (k : Int)) (hj : jx = (j : Int)) (hkj : k ≤ j) (hjc : j ≤ c) :
    Yv P n w0 F H L ⟨d, .slice T x (some lo) (some hi) none, ty, pos, aft, g⟩ (.slice (cutA A c k sz) (j - k) (c - k)) := fun a w ha hw => by
  subst hk; subst hj
  unfold elT at hT
  split at hT
  · rename_i e' he
    cases hi : P.info? e' with
    | none => simp [hi] at hT
    | some i =>
      simp only [hi, Option.map_some, Option.some.injEq, Prod.mk.injEq] at hT
      obtain ⟨rfl, rfl, rfl⟩ := hT
      have hb : (k : Int) ≤ (j : Int) := by omega
      simp [execOp, ha.ev hx, ha.ev hl, ha.ev hh, Instr.sliceAt, Instr.slice, run_underlying he, Instr.sliceBounds, Instr.sliceBound, asIntOf, hjc, hkj, sizeOf, typeInfo, hi, cutA]
  · cases hT

/-- 'T{..}': the parts laid over the zero value. -/
def buildV (P : Program) (T : TypeId) (parts : List (Nat × Value)) : Option (List Value) :=
  match P.underlying T, zeroT P T with
  | some (.struct fs), some zs =>
    match (fs.toList.mapM fun f => (P.info? f.type).map fun i => (f.offset, i.size)) with
    | some places => (Instr.fill (fun j => places[j]?) zs.toArray parts).map Array.toList
    | none => none
  | _, _ => none
theorem mapM_places {w : World} : ∀ (fs : List Field) (places : List (Nat × Nat)), (fs.mapM fun f => (P.info? f.type).map fun i => (f.offset, i.size)) = some places →
    (List.mapM (m := Sem) (fun (f : Field) => do pure (f.offset, ← sizeOf f.type)) fs).run P w = .ok places w
  | [], places, h => by
    simp at h
    subst h
    simp
  | f :: fs, places, h => by
    rw [List.mapM_cons] at h
    cases hi : P.info? f.type with
    | none => simp [hi] at h
    | some i =>
      cases hr : (fs.mapM fun f => (P.info? f.type).map fun i => (f.offset, i.size)) with
      | none => simp [hi, hr] at h
      | some r =>
        simp [hi, hr] at h
        subst h
        rw [List.mapM_cons]
        simp only [Sem.run_bind, sizeOf, typeInfo, run_program, hi, Sem.run_pure, Result.andThen_ok]
        have := mapM_places (w := w) fs r hr
        simp only [sizeOf, typeInfo] at this
        rw [this]
        rfl
theorem Yv.build {parts : List (Nat × Operand)} {pv : List (Nat × Value)} {cs : List Value} (hpv : Evs L (parts.map (·.2)) (pv.map (·.2))) (hpi : parts.map (·.1) = pv.map (·.1)) (hc : buildV P T pv = some cs) :
    Yv P n w0 F H L ⟨d, .build T parts.toArray, ty, pos, aft, g⟩ (.agg cs.toArray) := fun a w ha hw => by
  have hmap : parts.map (fun p => (p.1, a.eval p.2)) = pv := by
    have h2 := hpv.map ha
    apply List.ext_getElem?
    intro j
    have e1 := congrArg (·[j]?) h2
    have e2 := congrArg (·[j]?) hpi
    simp only [List.getElem?_map, List.map_map] at e1 e2
    rw [List.getElem?_map]
    cases hp : parts[j]? with
    | none => cases hq : pv[j]? <;> simp_all
    | some p =>
      cases hq : pv[j]? with
      | none => simp_all
      | some q =>
        simp only [hp, hq, Option.map_some, Option.some.injEq, Function.comp] at e1 e2
        simp [e1, e2]
  unfold buildV at hc
  split at hc
  · rename_i fs zs hu hz
    split at hc
    · rename_i places hpl
      obtain ⟨r, hr1, hr2⟩ := Option.map_eq_some_iff.1 hc
      subst hr2
      have hzz : ∃ i z, P.info? T = some i ∧ i.zero = some z ∧ z.cells = zs.toArray := by
        unfold zeroT at hz
        cases hi : P.info? T with
        | none => simp [hi] at hz
        | some i =>
          cases hz' : i.zero with
          | none => simp [hi, hz'] at hz
          | some z =>
            simp only [hi, Option.bind_some, hz', Option.map_some, Option.some.injEq] at hz
            exact ⟨i, z, rfl, hz', by rw [← hz]⟩
      obtain ⟨i, z, hi, hz', hcz⟩ := hzz
      have hm := mapM_places (P := P) (w := w) fs.toList places hpl
      have hm2 : (Array.mapM (m := Sem) (fun (f : Field) => do pure (f.offset, ← sizeOf f.type)) fs).run P w = .ok places.toArray w := by
        rw [← Array.toArray_toList (xs := fs), List.mapM_toArray, Sem.run_map, hm]
        rfl
      have hfun : (fun (j : Nat) => places.toArray[j]?) = fun (j : Nat) => places[j]? := by funext j; simp
      simp only [execOp, Instr.build, Sem.run_bind, zeroValue, typeInfo, run_program, hi, hz', Sem.run_pure, Result.andThen_ok, run_underlying hu, hm2, List.map_toArray, hmap, hcz, hfun, hr1, Array.toArray_toList]
    · cases hc
  · cases hc
/-- The same; g lays out the cells of the parts' values. -/
theorem Yv.buildG {parts : List (Nat × Operand)} {pv : List (Nat × Value)} {cs : List Value} (g' : List Value → List Value) (hpv : Evs L (parts.map (·.2)) (pv.map (·.2))) (hpi : parts.map (·.1) = pv.map (·.1)) (_he : g' (pv.map (·.2)) = cs) (hc : buildV P T pv = some cs) :
    Yv P n w0 F H L ⟨d, .build T parts.toArray, ty, pos, aft, g⟩ (.agg cs.toArray) := Yv.build hpv hpi hc

def callable (P : Program) (f : FuncId) : Bool :=
  match P.funcs[f]? with
  | some fn => !(fn.name == "runtime.NumGoroutine") && !fn.body.isNone
  | none => false
theorem run_callFunc {f : FuncId} {args : Array Value} {w : World} (h : callable P f = true) : (callFunc f args).run P w = .ok (.enter f args) w := by
  unfold callable at h
  split at h
  · rename_i fn hf
    simp only [Bool.and_eq_true, Bool.not_eq_true'] at h
    simp only [callFunc, Sem.run_bind, run_program, Result.andThen_ok, hf, h.1, h.2, Bool.false_eq_true, if_false, Sem.run_pure]
  · cases h

/-- What a call hands back, and that what was there when it began is as it was. -/
def RetB (w : World) (v : Value) (e : Ending) (w' : World) : Prop := e = .returned v ∧ Below w.heap.size w w'

theorem Yl.call {f : FuncId} {xs : List Operand} {vs : List Value} {ts : Array TypeId} {v : Value} (hc : callable P f = true) (hargs : Evs L xs vs) (h : ∀ w, HOk w0 F H w → Calls P f vs.toArray w (RetB w v)) :
    Yl P n w0 F H L ⟨d, .call { callee := .value (.func f), args := xs.toArray, argTypes := ts }, ty, pos, aft, g⟩ v := fun a w ha hw => by
  unfold Oper.quietAt
  have hr : (execOp a.eval ⟨d, .call { callee := .value (.func f), args := xs.toArray, argTypes := ts }, ty, pos, aft, g⟩).run P w = .ok (.enter f vs.toArray) w := by
    simp only [execOp, resolve, Act.eval, Deferred.ofValue, Sem.run_bind, Sem.run_pure, Result.andThen_ok, invoke, List.map_toArray]
    rw [show List.map (Act.eval a) xs = vs from hargs.map ha, run_callFunc hc]
    simp
  rw [hr]
  exact ⟨rfl, (h w hw).mono fun e w' ⟨he, hb⟩ => ⟨he, hw.up hb⟩⟩
/-- A call of a function value. -/
theorem Yl.callV {fo : Operand} {f : FuncId} {us cap : Array Value} {xs : List Operand} {vs : List Value} {ts : Array TypeId} {v : Value} (hf : ev L fo = some (.func (.func f) us cap)) (hc : callable P f = true) (hargs : Evs L xs vs)
    (h : ∀ w, HOk w0 F H w → Calls P f (us ++ vs.toArray ++ cap) w (RetB w v)) :
    Yl P n w0 F H L ⟨d, .call { callee := .value fo, args := xs.toArray, argTypes := ts }, ty, pos, aft, g⟩ v := fun a w ha hw => by
  unfold Oper.quietAt
  have hr : (execOp a.eval ⟨d, .call { callee := .value fo, args := xs.toArray, argTypes := ts }, ty, pos, aft, g⟩).run P w = .ok (.enter f (us ++ vs.toArray ++ cap)) w := by
    simp only [execOp, resolve, ha.ev hf, Deferred.ofValue, Sem.run_bind, Sem.run_pure, Result.andThen_ok, invoke, List.map_toArray]
    rw [show List.map (Act.eval a) xs = vs from hargs.map ha, run_callFunc hc]
  rw [hr]
  exact ⟨rfl, (h w hw).mono fun e w' ⟨he, hb⟩ => ⟨he, hw.up hb⟩⟩
end
end
/-! ### Operations that make or write memory -/
section
variable {P : Program} {n : Nat} {w0 : World} {F : List Nat} {H : List HEnt} {L : Env}

def SPost (n : Nat) (w0 : World) (F : List Nat) (Q : Env → List HEnt → Prop) : Exit → Act → World → Prop := fun e a w => e = .normal ∧ ∃ L H, Fr n L a ∧ HOk w0 F H w ∧ Q L H

def SOps (P : Program) (n : Nat) (w0 : World) (F : List Nat) (l0 l : List Oper) (L : Env) (H : List HEnt) (Q : Env → List HEnt → Prop) : Prop :=
  ∀ a w, Fr n L a → HOk w0 F H w → wpList P l0.toArray (SPost n w0 F Q) l a w

theorem SOps.nil {l0 : List Oper} {Q : Env → List HEnt → Prop} (h : Q L H) : SOps P n w0 F l0 [] L H Q := fun _ _ ha hw => ⟨rfl, L, H, ha, hw, h⟩

theorem SOps.step {l0 rest : List Oper} {o : Oper} {v : Value} {Q : Env → List HEnt → Prop} (hg : wantedL l0 L o.guard = some true) (hd : dstOk n o.dst = true) (hy : Yl P n w0 F H L o v)
    (h : SOps P n w0 F l0 rest (pushE o.dst v L) H Q) : SOps P n w0 F l0 (o :: rest) L H Q := fun a w ha hw => by
  unfold wpList
  rw [if_pos (wantedL_eq ha hg)]
  refine .inl (Oper.wp_of_quiet (C := HOk w0 F H) (K := fun a' => a' = a.put o.dst v) hw (fun a' w' hw' e => ?_) ⟨v, fun w hw => hy a w ha hw, rfl⟩)
  subst e
  exact h _ _ (ha.put v hd) hw'

theorem SOps.skip {l0 rest : List Oper} {o : Oper} {Q : Env → List HEnt → Prop} (hg : wantedL l0 L o.guard = some false) (hd : dstOk n o.dst = true)
    (h : SOps P n w0 F l0 rest (pushE o.dst undef L) H Q) : SOps P n w0 F l0 (o :: rest) L H Q := fun a w ha hw => by
  unfold wpList
  rw [if_neg (by rw [wantedL_eq ha hg]; simp)]
  exact h _ _ (ha.put undef hd) hw

theorem SOps.st {l0 rest : List Oper} {d : Nat} {op : Op} {ty : TypeId} {pos : String} {aft : Array Edge} {g : Option (Nat × Bool)} {v : Value} {Q : Env → List HEnt → Prop} (hw : wantedL l0 L g = some true) (hd : Nat.blt d n = true)
    (hy : Yl P n w0 F H L ⟨some d, op, ty, pos, aft, g⟩ v) (h : SOps P n w0 F l0 rest ((d, v) :: L) H Q) : SOps P n w0 F l0 (⟨some d, op, ty, pos, aft, g⟩ :: rest) L H Q := SOps.step hw hd hy h
theorem SOps.stN {l0 rest : List Oper} {op : Op} {ty : TypeId} {pos : String} {aft : Array Edge} {g : Option (Nat × Bool)} {v : Value} {Q : Env → List HEnt → Prop} (hw : wantedL l0 L g = some true)
    (hy : Yl P n w0 F H L ⟨none, op, ty, pos, aft, g⟩ v) (h : SOps P n w0 F l0 rest L H Q) : SOps P n w0 F l0 (⟨none, op, ty, pos, aft, g⟩ :: rest) L H Q := SOps.step hw rfl hy h
theorem SOps.sk {l0 rest : List Oper} {d : Nat} {op : Op} {ty : TypeId} {pos : String} {aft : Array Edge} {g : Option (Nat × Bool)} {Q : Env → List HEnt → Prop} (hw : wantedL l0 L g = some false) (hd : Nat.blt d n = true)
    (h : SOps P n w0 F l0 rest ((d, undef) :: L) H Q) : SOps P n w0 F l0 (⟨some d, op, ty, pos, aft, g⟩ :: rest) L H Q := SOps.skip hw hd h
/-- One operation, whatever comes behind it. -/
def One (P : Program) (n : Nat) (w0 : World) (F : List Nat) (o : Oper) (L : Env) (H : List HEnt) (K : Env → List HEnt → Prop) : Prop :=
  ∀ a w (KK : Act → World → Prop) (Q : Exit → Act → World → Prop), Fr n L a → HOk w0 F H w → (∀ a' w' L' H', Fr n L' a' → HOk w0 F H' w' → K L' H' → KK a' w') → o.wp P a w KK Q

theorem SOps.one {l0 rest : List Oper} {o : Oper} {Q : Env → List HEnt → Prop} (hg : wantedL l0 L o.guard = some true) (h : One P n w0 F o L H (fun L' H' => SOps P n w0 F l0 rest L' H' Q)) : SOps P n w0 F l0 (o :: rest) L H Q := fun a w ha hw => by
  unfold wpList
  rw [if_pos (wantedL_eq ha hg)]
  exact .inl (h a w _ _ ha hw (fun a' w' L' H' h1 h2 h3 => h3 a' w' h1 h2))

theorem One.quiet {o : Oper} {v : Value} {K : Env → List HEnt → Prop} (hd : dstOk n o.dst = true) (hy : Yl P n w0 F H L o v) (h : K (pushE o.dst v L) H) : One P n w0 F o L H K := fun a w KK Q ha hw hk => by
  refine Oper.wp_of_quiet (C := HOk w0 F H) (K := fun a' => a' = a.put o.dst v) hw (fun a' w' hw' e => ?_) ⟨v, fun w hw => hy a w ha hw, rfl⟩
  subst e
  exact hk _ _ _ _ (ha.put v hd) hw' h
theorem One.st {d : Nat} {op : Op} {ty : TypeId} {pos : String} {aft : Array Edge} {g : Option (Nat × Bool)} {v : Value} {K : Env → List HEnt → Prop} (hd : Nat.blt d n = true) (hy : Yl P n w0 F H L ⟨some d, op, ty, pos, aft, g⟩ v) (h : K ((d, v) :: L) H) :
    One P n w0 F ⟨some d, op, ty, pos, aft, g⟩ L H K := One.quiet hd hy h
theorem One.stN {op : Op} {ty : TypeId} {pos : String} {aft : Array Edge} {g : Option (Nat × Bool)} {v : Value} {K : Env → List HEnt → Prop} (hy : Yl P n w0 F H L ⟨none, op, ty, pos, aft, g⟩ v) (h : K L H) :
    One P n w0 F ⟨none, op, ty, pos, aft, g⟩ L H K := One.quiet rfl hy h

/-- An operation that yields a value and leaves another symbolic heap. -/
theorem One.mem {o : Oper} {K : Env → List HEnt → Prop} (hd : dstOk n o.dst = true)
    (h : ∀ a w, Fr n L a → HOk w0 F H w → ∃ v w' H', (execOp a.eval o).run P w = .ok (.value v) w' ∧ HOk w0 F H' w' ∧ K (pushE o.dst v L) H') : One P n w0 F o L H K := fun a w KK Q ha hw hk => by
  obtain ⟨v, w', H', h1, h2, h3⟩ := h a w ha hw
  unfold Oper.wp
  rw [h1]
  exact hk _ _ _ _ (ha.put v hd) h2 h3
/-- An operation without a value. -/
theorem One.memU {o : Oper} {K : Env → List HEnt → Prop} (hd : o.dst = none)
    (h : ∀ a w, Fr n L a → HOk w0 F H w → ∃ w' H', (execOp a.eval o).run P w = .ok .skip w' ∧ HOk w0 F H' w' ∧ K L H') : One P n w0 F o L H K := fun a w KK Q ha hw hk => by
  obtain ⟨w', H', h1, h2, h3⟩ := h a w ha hw
  unfold Oper.wp
  rw [h1]
  simp only [Oper.upon, hd, Act.put]
  exact hk _ _ _ _ ha h2 h3
/-- A call, in general. -/
theorem One.callG {o : Oper} {f : FuncId} {args : Array Value} {K : Env → List HEnt → Prop} {R : World → Ending → World → Prop} (hd : dstOk n o.dst = true)
    (hr : ∀ a w, Fr n L a → (execOp a.eval o).run P w = .ok (.enter f args) w) (hc : ∀ w, HOk w0 F H w → Calls P f args w (R w))
    (h : ∀ w e w', HOk w0 F H w → R w e w' → ∃ v H', e = .returned v ∧ HOk w0 F H' w' ∧ K (pushE o.dst v L) H') : One P n w0 F o L H K := fun a w KK Q ha hw hk => by
  unfold Oper.wp
  rw [hr a w ha]
  refine (hc w hw).mono fun e w' hR => ?_
  obtain ⟨v, H', rfl, h1, h2⟩ := h w e w' hw hR
  exact hk _ _ _ _ (ha.put v hd) h1 h2

section
variable {ty : TypeId} {pos : String} {aft : Array Edge} {g : Option (Nat × Bool)} {d : Nat} {T T' : TypeId} {x y : Operand} {K : Env → List HEnt → Prop}

theorem run_call_func {a : Act} {w : World} {f : FuncId} {xs : List Operand} {vs : List Value} {ts : Array TypeId} {dd : Option Nat} (ha : Fr n L a) (hc : callable P f = true) (hargs : Evs L xs vs) :
    (execOp a.eval ⟨dd, .call { callee := .value (.func f), args := xs.toArray, argTypes := ts }, ty, pos, aft, g⟩).run P w = .ok (.enter f vs.toArray) w := by
  simp only [execOp, resolve, Act.eval, Deferred.ofValue, Sem.run_bind, Sem.run_pure, Result.andThen_ok, invoke, List.map_toArray]
  rw [show List.map (Act.eval a) xs = vs from hargs.map ha, run_callFunc hc]
  simp

/-- A call of a named function. -/
theorem One.call {f : FuncId} {xs : List Operand} {vs : List Value} {ts : Array TypeId} {R : World → Ending → World → Prop} {dd : Option Nat} (hd : dstOk n dd = true) (hc : callable P f = true) (hargs : Evs L xs vs)
    (hcc : ∀ w, HOk w0 F H w → Calls P f vs.toArray w (R w))
    (h : ∀ w e w', HOk w0 F H w → R w e w' → ∃ v H', e = .returned v ∧ HOk w0 F H' w' ∧ K (pushE dd v L) H') :
    One P n w0 F ⟨dd, .call { callee := .value (.func f), args := xs.toArray, argTypes := ts }, ty, pos, aft, g⟩ L H K :=
  One.callG hd (fun _ _ ha => run_call_func ha hc hargs) hcc h

theorem zero_cells {cs : List Value} (hz : zeroT P T = some cs) : ∃ i z, P.info? T = some i ∧ i.zero = some z ∧ z.cells = cs.toArray := by
  unfold zeroT at hz
  cases hi : P.info? T with
  | none => simp [hi] at hz
  | some i =>
    cases hz' : i.zero with
    | none => simp [hi, hz'] at hz
    | some z =>
      simp only [hi, Option.bind_some, hz', Option.map_some, Option.some.injEq] at hz
      exact ⟨i, z, rfl, hz', by rw [← hz]⟩

theorem blk_new {w : World} (cs : List Value) (T : TypeId) : (HEnt.blk w.heap.size T cs).ok (w.alloc (.cells cs.toArray T)) := heap_alloc_new w _
theorem below_alloc (w : World) (o : Obj) : Below w.heap.size w (w.alloc o) := (Below.refl _ _).alloc (Nat.le_refl _) o

/-- A new variable. -/
theorem One.alloc {cs : List Value} (hd : Nat.blt d n = true) (hz : zeroT P T = some cs)
    (h : ∀ b, K ((d, .pointer (some ⟨b, 0, none⟩)) :: L) (.blk b T cs :: H)) : One P n w0 F ⟨some d, .alloc T, ty, pos, aft, g⟩ L H K := by
  obtain ⟨i, z, hi, hz', hc⟩ := zero_cells hz
  refine One.mem (by simpa [dstOk] using hd) fun a w ha hw => ⟨_, w.alloc (.cells cs.toArray T), _, ?_, hw.push (below_alloc w _) (blk_new cs T) (by simp [HEnt.block]), h w.heap.size⟩
  simp [execOp, Instr.alloc, zeroValue, typeInfo, hi, hz', newVar, newRow, hc]
/-- A variable that holds a value from the first (a struct parameter). -/
theorem One.box {v : Value} {cs : List Value} (hd : Nat.blt d n = true) (hx : ev L x = some v) (hv : v.cells.toList = cs)
    (h : ∀ b, K ((d, .pointer (some ⟨b, 0, none⟩)) :: L) (.blk b T cs :: H)) : One P n w0 F ⟨some d, .box T x, ty, pos, aft, g⟩ L H K := by
  subst hv
  refine One.mem (by simpa [dstOk] using hd) fun a w ha hw => ⟨_, w.alloc (.cells v.cells.toList.toArray T), _, ?_, hw.push (below_alloc w _) (blk_new _ T) (by simp [HEnt.block]), h w.heap.size⟩
  simp [execOp, Instr.box, newVar, newRow, ha.ev hx]

theorem run_storeVar_at {w : World} {b off s : Nat} {bb : Bool} {v : Value} {cur : Array Value} (hT : layT P T = some (bb, s)) (hs : v.cells.size = s) (h1 : ∀ u ∈ v.cells.toList, u.oneCell' = true)
    (hb : w.heap[b]? = some (.cells cur T' (0, 0))) (hoff : off + s ≤ cur.size) :
    (storeVar T ⟨b, off, none⟩ v).run P w = .ok () (w.setRow b (cur.toList.take off ++ v.cells.toList ++ cur.toList.drop (off + s)).toArray) := by
  have := run_storeCells_at P b off T' v.cells.toList 0 cur w hb (by simpa [hs] using hoff) h1
  simp only [Nat.add_zero, Array.length_toList, hs] at this
  simp [storeVar, run_sizeOf hT, hs, this]

theorem grownBy_setRow (w : World) (b : Nat) (cs : Array Value) : w.grownBy (w.setRow b cs) (some b) :=
  ⟨rfl, rfl, rfl, by simp, fun k _ hk => setRow_other w b k cs (fun e => hk (by simp [e]))⟩

/-- A store into one of the call's own variables: a field, or the whole. -/
theorem One.store {p : Addr} {b off i s : Nat} {bb : Bool} {v : Value} {vs cs cs' : List Value} {H' : List HEnt} (hT : layT P T = some (bb, s)) (hx : ev L x = some (.pointer (some p))) (hy : ev L y = some v)
    (hv : v.cells.toList = vs) (hs : vs.length = s) (h1 : vs.all Value.oneCell' = true) (hi : H[i]? = some (.blk b T' cs)) (hp : p = ⟨b, off, none⟩) (hoff : Nat.ble (off + s) cs.length = true)
    (hcs : cs.take off ++ vs ++ cs.drop (off + s) = cs') (hH : H.set i (.blk b T' cs') = H') (h : K L H') : One P n w0 F ⟨none, .store T x y, ty, pos, aft, g⟩ L H K := by
  subst hv; subst hp; subst hcs; subst hH
  have hs' : v.cells.size = s := by simpa using hs
  have hoff' : off + s ≤ cs.length := by simpa using hoff
  refine One.memU rfl fun a w ha hw => ?_
  have hb := hw.ent _ (List.mem_of_getElem? hi)
  have hr := run_storeVar_at (P := P) (T := T) (v := v) hT hs' (List.all_eq_true.1 h1) hb (by simpa using hoff')
  refine ⟨w.setRow b (cs.toArray.toList.take off ++ v.cells.toList ++ cs.toArray.toList.drop (off + s)).toArray, _, ?_, hw.upd hi (grownBy_setRow w b _) (e' := .blk b T' (cs.take off ++ v.cells.toList ++ cs.drop (off + s))) ?_ (fun g hg => .inl hg), h⟩
  · simp only [execOp, Instr.storeAt, ha.ev hx, ha.ev hy, Instr.sureAddr, Sem.run_bind, Sem.run_pure, Result.andThen_ok, hr]
  · have := setRow_heap w b _ (cs.take off ++ v.cells.toList ++ cs.drop (off + s)).toArray T' _ hb
    simpa [HEnt.ok] using this

theorem row_form {w : World} {A : Option Addr} {c sz m : Nat} {xs : List Value} (h : (HEnt.row A c T sz m xs).ok w) (hm : 0 < m) :
    ∃ gg cur, A = some ⟨gg, 0, none⟩ ∧ w.heap[gg]? = some (.cells cur T (0, 0)) ∧ m ≤ c ∧ c ≤ maxLen ∧ cur.size = c * sz ∧ cur.toList.take (m * sz) = xs := by
  have h' : w.ownsRow 0 T sz (.slice A m c) m xs := h
  rcases h'.2 with ⟨_, h0⟩ | ⟨gg, cap, cur, hv, _, hh, h1, h2, h3, h4⟩
  · omega
  · simp only [Value.slice.injEq] at hv
    obtain ⟨rfl, _, rfl⟩ := hv
    exact ⟨gg, cur, rfl, hh, h1, h2, h3, h4⟩

/-- A store into an element of a row of the call's own: a field of it ('f'), or the whole (f = 0). -/
theorem One.storeE {α : Type} {enc : α → List Value} {A : Option Addr} {c sz m k f i s : Nat} {bb : Bool} {l : List α} {v : Value} {e : α} {p : Addr} {H' : List HEnt} [Inhabited α] (hT : layT P T = some (bb, s))
    (hx : ev L x = some (.pointer (some p))) (hp : p = ((adr A).add (k * sz)).add f) (hy : ev L y = some v) (henc : ∀ x, (enc x).length = sz) (hs : v.cells.toList.length = s) (hf : f + s ≤ sz)
    (hv : (enc (nth l k)).take f ++ v.cells.toList ++ (enc (nth l k)).drop (f + s) = enc e) (h1 : v.cells.toList.all Value.oneCell' = true)
    (hi : H[i]? = some (.row A c T' sz m (l.flatMap enc))) (hm : l.length = m) (hk : k < l.length) (hH : H.set i (.row A c T' sz m ((l.set k e).flatMap enc)) = H')
    (h : K L H') : One P n w0 F ⟨none, .store T x y, ty, pos, aft, g⟩ L H K := by
  subst hH; subst hp
  have hs' : v.cells.size = s := by simpa using hs
  refine One.memU rfl fun a w ha hw => ?_
  have hb := hw.ent _ (List.mem_of_getElem? hi)
  obtain ⟨gg, cur, rfl, hh, h2, h3, h4, h5⟩ := row_form hb (by omega)
  have had : ((adr (some ⟨gg, 0, none⟩)).add (k * sz)).add f = ⟨gg, k * sz + f, none⟩ := by rw [add_add']; exact add_row gg _
  have hle : k * sz + sz ≤ m * sz := by
    have : (k + 1) * sz ≤ m * sz := Nat.mul_le_mul_right _ (by omega)
    rw [Nat.add_mul] at this; omega
  have hle2 : m * sz ≤ c * sz := Nat.mul_le_mul_right _ h2
  have hr := run_storeVar_at (P := P) (T := T) (v := v) (off := k * sz + f) hT hs' (List.all_eq_true.1 h1) hh (by omega)
  have hlen : (l.flatMap enc).length = m * sz := by rw [flat_len henc, hm]
  have hset : (l.set k e).flatMap enc = (l.flatMap enc).take (k * sz) ++ enc e ++ (l.flatMap enc).drop (k * sz + sz) := flat_set henc e l k hk
  have hmid : ∀ j, j < sz → (l.flatMap enc)[k * sz + j]? = (enc (nth l k))[j]? := fun j hj => by rw [flat_get henc _ _ _ hj, nth_get hk]; rfl
  have hcl : cur.toList.length = c * sz := by simpa using h4
  have hcur : ∀ j, j < m * sz → cur.toList[j]? = (l.flatMap enc)[j]? := fun j hj => by rw [← h5, List.getElem?_take, if_pos hj]
  refine ⟨w.setRow gg (cur.toList.take (k * sz + f) ++ v.cells.toList ++ cur.toList.drop (k * sz + f + s)).toArray, _, ?_, hw.upd hi (grownBy_setRow w gg _) (e' := .row (some ⟨gg, 0, none⟩) c T' sz m ((l.set k e).flatMap enc)) ?_ (fun g hg => .inl hg), h⟩
  · simp only [execOp, Instr.storeAt, ha.ev hx, ha.ev hy, Instr.sureAddr, Sem.run_bind, Sem.run_pure, Result.andThen_ok, had, hr]
  · refine ⟨by rw [flat_len henc, List.length_set, hm], .inr ⟨gg, c, _, rfl, Nat.zero_le _, setRow_heap w gg cur _ T' _ hh, h2, h3, ?_, ?_⟩⟩
    · simp only [List.size_toArray, List.length_append, List.length_take, List.length_drop, hcl, hs]
      omega
    · rw [hset]
      apply List.ext_getElem?
      intro j
      rw [List.getElem?_take]
      by_cases hj : j < m * sz
      · rw [if_pos hj]
        by_cases hj1 : j < k * sz
        · rw [List.append_assoc, List.getElem?_append_left (by rw [List.length_take, hcl]; omega), List.getElem?_take, if_pos (by omega), hcur j hj,
            List.append_assoc, List.getElem?_append_left (by rw [List.length_take, hlen]; omega), List.getElem?_take, if_pos hj1]
        · by_cases hj2 : j < k * sz + sz
          · have hR : ((l.flatMap enc).take (k * sz) ++ enc e ++ (l.flatMap enc).drop (k * sz + sz))[j]? = (enc e)[j - k * sz]? := by
              rw [List.getElem?_append_left (by rw [List.length_append, List.length_take, hlen, henc]; omega), List.getElem?_append_right (by rw [List.length_take, hlen]; omega), List.length_take, hlen]
              congr 1
              omega
            rw [hR, ← hv]
            by_cases hj3 : j < k * sz + f
            · rw [List.append_assoc, List.getElem?_append_left (by rw [List.length_take, hcl]; omega), List.getElem?_take, if_pos hj3, hcur j hj,
                List.append_assoc, List.getElem?_append_left (by rw [List.length_take, henc]; omega), List.getElem?_take, if_pos (by omega), ← hmid _ (by omega)]
              congr 1; omega
            · by_cases hj4 : j < k * sz + f + s
              · rw [List.getElem?_append_left (by rw [List.length_append, List.length_take, hcl, hs]; omega), List.getElem?_append_right (by rw [List.length_take, hcl]; omega), List.length_take, hcl,
                  List.getElem?_append_left (by rw [List.length_append, List.length_take, henc, hs]; omega), List.getElem?_append_right (by rw [List.length_take, henc]; omega), List.length_take, henc]
                congr 1; omega
              · rw [List.getElem?_append_right (by rw [List.length_append, List.length_take, hcl, hs]; omega), List.length_append, List.length_take, hcl, hs, List.getElem?_drop,
                  List.getElem?_append_right (by rw [List.length_append, List.length_take, henc, hs]; omega), List.length_append, List.length_take, henc, hs, List.getElem?_drop]
                rw [← hmid _ (by omega), ← hcur _ (by omega)]
                congr 1; omega
          · rw [List.getElem?_append_right (by rw [List.length_append, List.length_take, hcl, hs]; omega), List.length_append, List.length_take, hcl, hs, List.getElem?_drop, hcur _ (by omega),
              List.getElem?_append_right (by rw [List.length_append, List.length_take, hlen, henc]; omega), List.length_append, List.length_take, hlen, henc, List.getElem?_drop]
            congr 1; omega
      · rw [if_neg hj, List.getElem?_eq_none (by simp only [List.length_append, List.length_take, List.length_drop, hlen, henc]; omega)]

def fillSl (P : Program) (T : TypeId) (len : Nat) (parts : List (Nat × Value)) : Option (List Value) :=
  match elT P T with
  | some (e, size, _) =>
    if len * size > 2 ^ 24 then none else
    match (if len * size = 0 then some #[] else (zeroT P e).map List.toArray) with
    | some zero => (Instr.fill (fun i => some (i * size, size)) ((Array.range (len * size)).map (zero[· % zero.size]!)) parts).map Array.toList
    | none => none
  | none => none

theorem row_lit {w : World} {T : TypeId} {sz m : Nat} (cs : List Value) (hs : cs.length = m * sz) (hm : m ≤ maxLen) : (HEnt.row (some ⟨w.heap.size, 0, none⟩) m T sz m cs).ok (w.alloc (.cells cs.toArray T)) := by
  have := World.ownsRow_lit (base := 0) (e := T) (size := sz) w cs.toArray m (Nat.zero_le _) hm (by simpa using hs)
  simpa [HEnt.ok] using this

/-- '[]T{..}' -/
theorem One.buildSlice {e : TypeId} {sz by_ m : Nat} {cs : List Value} {parts : List (Nat × Operand)} {pv : List (Nat × Value)} (hd : Nat.blt d n = true) (hT : elT P T = some (e, sz, by_))
    (hpv : Evs L (parts.map (·.2)) (pv.map (·.2))) (hpi : parts.map (·.1) = pv.map (·.1)) (hc : fillSl P T m pv = some cs) (hl : cs.length = m * sz) (hm : Nat.ble m 16777216 = true)
    (h : ∀ b, K ((d, .slice (some ⟨b, 0, none⟩) m m) :: L) (.row (some ⟨b, 0, none⟩) m e sz m cs :: H)) : One P n w0 F ⟨some d, .buildSlice T m parts.toArray, ty, pos, aft, g⟩ L H K := by
  have hm' : m ≤ 16777216 := by simpa using hm
  refine One.mem (by simpa [dstOk] using hd) fun a w ha hw => ⟨_, w.alloc (.cells cs.toArray e), _, ?_, hw.push (below_alloc w _) (row_lit cs hl (by simp [maxLen]; omega)) (by simp [HEnt.block]), h w.heap.size⟩
  have hmap : parts.map (fun p => (p.1, a.eval p.2)) = pv := by
    have h2 := hpv.map ha
    apply List.ext_getElem?
    intro j
    have e1 := congrArg (·[j]?) h2
    have e2 := congrArg (·[j]?) hpi
    simp only [List.getElem?_map, List.map_map] at e1 e2
    rw [List.getElem?_map]
    cases hp : parts[j]? with
    | none => cases hq : pv[j]? <;> simp_all
    | some p =>
      cases hq : pv[j]? with
      | none => simp_all
      | some q =>
        simp only [hp, hq, Option.map_some, Option.some.injEq, Function.comp] at e1 e2
        simp [e1, e2]
  unfold fillSl at hc
  rw [hT] at hc
  simp only at hc
  unfold elT at hT
  split at hT
  · rename_i e' he
    cases hi : P.info? e' with
    | none => simp [hi] at hT
    | some i =>
      simp only [hi, Option.map_some, Option.some.injEq, Prod.mk.injEq] at hT
      obtain ⟨rfl, rfl, rfl⟩ := hT
      split at hc
      · cases hc
      · rename_i hsz
        have hsz' : ¬ (2 ^ 24 < m * i.size) := hsz
        by_cases h0 : m * i.size = 0
        · simp only [h0, if_true] at hc
          obtain ⟨r, hr1, hr2⟩ := Option.map_eq_some_iff.1 hc
          subst hr2
          simp only [execOp, Instr.buildSlice, Sem.run_bind, Sem.run_pure, Result.andThen_ok, run_underlying he, sizeOf, typeInfo, run_program, hi, List.map_toArray, hmap, h0, Nat.not_lt_zero, if_true, if_false, gt_iff_lt]
          simp only [hr1, newRow, Sem.run_bind, run_newObj, Result.andThen_ok, Sem.run_pure, Array.toArray_toList]
          rfl
        · simp only [h0, if_false] at hc
          cases hz : zeroT P e' with
          | none => simp [hz] at hc
          | some zs =>
            obtain ⟨i', z, hi', hz', hcz⟩ := zero_cells hz
            rw [hi] at hi'
            simp only [Option.some.injEq] at hi'
            subst hi'
            simp only [hz, Option.map_some] at hc
            obtain ⟨r, hr1, hr2⟩ := Option.map_eq_some_iff.1 hc
            subst hr2
            simp only [execOp, Instr.buildSlice, Sem.run_bind, Sem.run_pure, Result.andThen_ok, run_underlying he, sizeOf, typeInfo, run_program, hi, List.map_toArray, hmap, h0, if_false, gt_iff_lt, hsz', zeroValue, hz', hcz]
            simp only [hr1, newRow, Sem.run_bind, run_newObj, Result.andThen_ok, Sem.run_pure, Array.toArray_toList]
            rfl
  · cases hT
theorem One.buildSliceG {e : TypeId} {sz by_ m : Nat} {cs : List Value} {parts : List (Nat × Operand)} {pv : List (Nat × Value)} (g' : List Value → List Value) (hd : Nat.blt d n = true) (hT : elT P T = some (e, sz, by_))
    (hpv : Evs L (parts.map (·.2)) (pv.map (·.2))) (hpi : parts.map (·.1) = pv.map (·.1)) (_he : g' (pv.map (·.2)) = cs) (hc : fillSl P T m pv = some cs) (hl : cs.length = m * sz) (hm : Nat.ble m 16777216 = true)
    (h : ∀ b, K ((d, .slice (some ⟨b, 0, none⟩) m m) :: L) (.row (some ⟨b, 0, none⟩) m e sz m cs :: H)) : One P n w0 F ⟨some d, .buildSlice T m parts.toArray, ty, pos, aft, g⟩ L H K := One.buildSlice hd hT hpv hpi hc hl hm h

end
end

/-! ### Rows that are made, grown, handed back -/
section
variable {P : Program} {n : Nat} {w0 : World} {F : List Nat} {H : List HEnt} {L : Env}
variable {ty : TypeId} {pos : String} {aft : Array Edge} {g : Option (Nat × Bool)} {d : Nat} {T T' : TypeId} {x y : Operand} {K : Env → List HEnt → Prop}

/-- A call hands back a slice in new memory ('mk' of it: alone, or in a tuple). -/
def RetRow (w : World) (T : TypeId) (sz n : Nat) (xs : List Value) (mk : Value → Value) (e : Ending) (w' : World) : Prop :=
  ∃ A c, e = .returned (mk (.slice A n c)) ∧ Below w.heap.size w w' ∧ (HEnt.row A c T sz n xs).ok w' ∧ ∀ g, A.map (·.block) = some g → w.heap.size ≤ g

theorem One.callRow {f : FuncId} {xs : List Operand} {vs : List Value} {ts : Array TypeId} {sz m : Nat} {cells : List Value} {mk : Value → Value} (hd : Nat.blt d n = true) (hc : callable P f = true) (hargs : Evs L xs vs)
    (hcc : ∀ w, HOk w0 F H w → Calls P f vs.toArray w (RetRow w T sz m cells mk))
    (h : ∀ A c, K ((d, mk (.slice A m c)) :: L) (.row A c T sz m cells :: H)) :
    One P n w0 F ⟨some d, .call { callee := .value (.func f), args := xs.toArray, argTypes := ts }, ty, pos, aft, g⟩ L H K :=
  One.call (by simpa [dstOk] using hd) hc hargs hcc fun _ _ _ hw ⟨A, c, he, hb, hok, hbl⟩ => ⟨_, _, he, hw.push hb hok (fun g hg => hbl g hg), h A c⟩

theorem grownCells {w : World} {A : Option Addr} {c sz m k : Nat} {T : TypeId} {xs news : List Value} {v' : Value} {w' : World} (_hb : (HEnt.row A c T sz m xs).ok w) (_hg : w.grownBy w' (Value.slice A m c).ownBlock)
    (ho : w'.ownsRow 0 T sz v' (m + k) (xs ++ news)) (hbl : v'.ownBlock = (Value.slice A m c).ownBlock ∨ v'.ownBlock = some w.heap.size) :
    ∃ A' c', v' = .slice A' (m + k) c' ∧ (HEnt.row A' c' T sz (m + k) (xs ++ news)).ok w' ∧ ∀ g, (HEnt.row A' c' T sz (m + k) (xs ++ news)).block = some g → (HEnt.row A c T sz m xs).block = some g ∨ w.heap.size ≤ g := by
  have form : ∃ A' c', v' = .slice A' (m + k) c' := by
    rcases ho.2 with ⟨h1, h2⟩ | ⟨gg, cap, cur, h1, _⟩
    · exact ⟨none, 0, by rw [h1, h2]⟩
    · exact ⟨_, _, h1⟩
  obtain ⟨A', c', rfl⟩ := form
  refine ⟨A', c', rfl, ho, fun gg hgg => ?_⟩
  rw [ownBlock_slice, ownBlock_slice] at hbl
  simp only [HEnt.block] at *
  rcases hbl with h1 | h1
  · exact .inl (h1 ▸ hgg)
  · rw [h1] at hgg
    simp only [Option.some.injEq] at hgg
    exact .inr (by omega)

/-- A call that writes into a row that it is handed, and into nothing else that was there. -/
def RetMut (w : World) (A : Option Addr) (c : Nat) (T : TypeId) (sz m : Nat) (xs : List Value) (v : Value) (e : Ending) (w' : World) : Prop :=
  e = .returned v ∧ Bel (A.map (·.block)).toList w w' ∧ (HEnt.row A c T sz m xs).ok w'

theorem One.callMut {f : FuncId} {xs : List Operand} {vs : List Value} {ts : Array TypeId} {A : Option Addr} {c sz m i : Nat} {cells cells' : List Value} {v : Value} {H' : List HEnt} (hd : Nat.blt d n = true) (hc : callable P f = true) (hargs : Evs L xs vs)
    (hi : H[i]? = some (.row A c T sz m cells)) (hcc : ∀ w, HOk w0 F H w → Calls P f vs.toArray w (RetMut w A c T sz m cells' v)) (hH : H.set i (.row A c T sz m cells') = H') (h : K ((d, v) :: L) H') :
    One P n w0 F ⟨some d, .call { callee := .value (.func f), args := xs.toArray, argTypes := ts }, ty, pos, aft, g⟩ L H K := by
  subst hH
  refine One.call (by simpa [dstOk] using hd) hc hargs hcc fun w e w' hw ⟨he, hb, hok⟩ => ⟨_, _, he, hw.upd hi ?_ hok (fun g hg => .inl hg), h⟩
  exact ⟨hb.os, hb.tape, hb.output, hb.size, fun k hk hne => hb.block k hk (fun hx => hne (by
    cases A with
    | none => simp at hx
    | some a => simp at hx; simp [HEnt.block, hx]))⟩

theorem HOk.borrow {w : World} {e : HEnt} (h : e.ok w) : HOk w e.block.toList [e] w :=
  ⟨Bel.refl _ _, by simpa using h, by intro f hf g hg; simp at hf; subst hf; exact .inr (by simp [hg]), by simp⟩

theorem HOk.borrowRow {w : World} {A : Option Addr} {c T sz m : Nat} {xs : List Value} (h : (HEnt.row A c T sz m xs).ok w) : HOk w (A.map (·.block)).toList [.row A c T sz m xs] w :=
  HOk.borrow h

theorem elT_info {T e : TypeId} {sz by_ : Nat} (h : elT P T = some (e, sz, by_)) : ∃ i, P.underlying T = some (.slice e) ∧ P.info? e = some i ∧ i.size = sz ∧ i.bytes = by_ := by
  unfold elT at h
  split at h
  · rename_i e' he
    cases hi : P.info? e' with
    | none => simp [hi] at h
    | some i =>
      simp only [hi, Option.map_some, Option.some.injEq, Prod.mk.injEq] at h
      obtain ⟨rfl, rfl, rfl⟩ := h
      exact ⟨i, he, hi, rfl, rfl⟩
  · cases h

theorem run_append_rd {w : World} {A A2 : Option Addr} {c c2 sz by_ m k i : Nat} {e : TypeId} {xs news : List Value} {zs : List Value} (hT : elT P T = some (e, sz, by_)) (hz : zeroT P e = some zs) (hzl : zs.length = sz) (hsz : 0 < sz)
    (hw : HOk w0 F H w) (hi : H[i]? = some (.row A c e sz m xs)) (hr : Sl w sz A2 k c2 news) (h1 : news.all Value.oneCell' = true) (h63 : m + k ≤ maxLen) (hby : (m + k) * by_ ≤ 140737488355328) :
    ∃ A' c' w', (Builtin.append_ #[T, T] ty #[.slice A m c, .slice A2 k c2]).run P w = .ok (.slice A' (m + k) c') w' ∧ HOk w0 F (H.set i (.row A' c' e sz (m + k) (xs ++ news))) w' := by
  obtain ⟨inf, hu, hinf, hs1, hs2⟩ := elT_info hT
  obtain ⟨inf', z, hinf', hz', hzc⟩ := zero_cells hz
  rw [hinf] at hinf'
  simp only [Option.some.injEq] at hinf'
  subst hinf'
  have hb := hw.ent _ (List.mem_of_getElem? hi)
  have hown : w.ownsRow 0 e sz (.slice A m c) m xs := hb
  rcases Nat.eq_zero_or_pos k with h0 | h0
  · subst h0
    have hn : news = [] := List.eq_nil_of_length_eq_zero (by simpa using hr.len)
    subst hn
    have hmc := (sl_of_row hb).cap
    refine ⟨A, c, w, ?_, ?_⟩
    · have hmc' : m + 0 ≤ c := by omega
      rcases hown.2 with ⟨hv, hm0⟩ | ⟨gg, cap, cur, hv, _⟩
      · simp only [Value.slice.injEq] at hv
        obtain ⟨rfl, rfl, rfl⟩ := hv
        cases A2 <;> simp [Builtin.append_, run_underlying hu, sizeOf, typeInfo, hinf, Builtin.lenOf, Builtin.firstCells, loadCells, loadCellsFrom]
      · simp only [Value.slice.injEq] at hv
        obtain ⟨rfl, _, rfl⟩ := hv
        cases A2 <;> simp [Builtin.append_, run_underlying hu, sizeOf, typeInfo, hinf, Builtin.lenOf, Builtin.firstCells, loadCells, loadCellsFrom, hmc, storeCells]
    · have hset : H.set i (.row A c e sz (m + 0) (xs ++ [])) = H := by
        simp only [Nat.add_zero, List.append_nil]
        apply List.ext_getElem?
        intro j
        rw [List.getElem?_set]
        split
        · rename_i hij
          subst hij
          rw [if_pos (List.getElem?_eq_some_iff.1 hi).1, hi]
        · rfl
      rw [hset]
      exact hw
  · obtain ⟨hA2, hlt, hcells⟩ := hr.at_ h0
    cases A2 with
    | none => simp at hA2
    | some ad =>
      obtain ⟨v', w', hrun, ho, hg, _, hbl⟩ := run_append_own_at (P := P) w 0 T ty e inf z sz by_ hu hinf hz' hs1 hs2 (by rw [hzc]; simpa using hzl) hsz (.slice A m c) m xs hown ad k c2 news (by rw [hr.len]) hcells (List.all_eq_true.1 h1) h63 hby (Nat.zero_le _)
      obtain ⟨A', c', rfl, hok, hbl'⟩ := grownCells hb hg ho hbl
      exact ⟨A', c', w', hrun, hw.upd hi (by rw [ownBlock_slice] at hg; exact hg) hok hbl'⟩

/-- 'append(s, x..)', s a row of the call's own, x readable. -/
theorem One.append {α : Type} {enc : α → List Value} {l l2 : List α} {A A2 : Option Addr} {c c2 sz by_ m k i m' : Nat} {e : TypeId} {zs : List Value} {H' : Option Addr → Nat → List HEnt} (hd : Nat.blt d n = true)
    (hT : elT P T = some (e, sz, by_)) (hz : zeroT P e = some zs) (hzl : zs.length = sz) (hsz : 0 < sz) (hx : ev L x = some (.slice A m c)) (hy : ev L y = some (.slice A2 k c2))
    (hi : H[i]? = some (.row A c e sz m (l.flatMap enc))) (hr : Rd w0 F H sz A2 k c2 (l2.flatMap enc)) (h1 : ∀ x, (enc x).all Value.oneCell' = true) (hm' : m' = m + k) (h63 : m' ≤ 140737488355328) (hby : m' * by_ ≤ 140737488355328)
    (hH : ∀ A' c', H.set i (.row A' c' e sz m' ((l ++ l2).flatMap enc)) = H' A' c')
    (h : ∀ A' c', K ((d, .slice A' m' c') :: L) (H' A' c')) :
    One P n w0 F ⟨some d, .call { callee := .builtin .append, args := #[x, y], argTypes := #[T, T] }, ty, pos, aft, g⟩ L H K := by
  subst hm'
  refine One.mem (by simpa [dstOk] using hd) fun a w ha hw => ?_
  have hall : (l2.flatMap enc).all Value.oneCell' = true := by
    rw [List.all_eq_true]
    intro u hu
    obtain ⟨z, _, hz2⟩ := List.mem_flatMap.1 hu
    exact List.all_eq_true.1 (h1 z) u hz2
  obtain ⟨A', c', w', hrun, hok⟩ := run_append_rd (ty := ty) hT hz hzl hsz hw hi (hr w hw) hall (by simp only [maxLen]; omega) hby
  refine ⟨.slice A' (m + k) c', w', _, ?_, hok, ?_⟩
  · simp only [execOp, resolve, invoke, builtin, Sem.run_bind, Sem.run_pure, Result.andThen_ok, List.map_toArray, List.map_cons, List.map_nil, ha.ev hx, ha.ev hy, hrun]
  · have e1 : l.flatMap enc ++ l2.flatMap enc = (l ++ l2).flatMap enc := by simp
    rw [e1, hH]
    exact h A' c'

theorem madeCells_flat {α : Type} {enc : α → List Value} {sz : Nat} (henc : ∀ x, (enc x).length = sz) (hsz : 0 < sz) (z : α) (m : Nat) : (madeCells (enc z).toArray (m * sz)).toList = (List.replicate m z).flatMap enc := by
  apply List.ext_getElem?
  intro j
  by_cases hj : j < m * sz
  · have h1 : j / sz < m := by rw [Nat.div_lt_iff_lt_mul hsz]; omega
    have h2 : j % sz < sz := Nat.mod_lt _ hsz
    have hd : j = j / sz * sz + j % sz := by rw [Nat.mul_comm]; exact (Nat.div_add_mod j sz).symm
    have e1 : ((List.replicate m z).flatMap enc)[j]? = (enc z)[j % sz]? := by
      conv => lhs; rw [hd]
      rw [flat_get henc _ _ _ h2, List.getElem?_replicate, if_pos h1]
      rfl
    rw [e1]
    simp [madeCells, hj, henc]
    rw [List.getElem?_eq_getElem (by rw [henc]; exact h2)]
    simp
  · rw [List.getElem?_eq_none (by simp [madeCells]; omega), List.getElem?_eq_none (by rw [flat_len henc]; simp; omega)]

/-- 'make([]T, n)' -/
theorem One.make {α : Type} {enc : α → List Value} (z : α) {sz by_ m : Nat} {e : TypeId} {zs : List Value} (hd : Nat.blt d n = true) (hT : elT P T = some (e, sz, by_)) (hz : zeroT P e = some zs) (hze : zs = enc z) (henc : ∀ x, (enc x).length = sz) (hsz : 0 < sz)
    (hx : ev L x = some (.int .i64 (m : Int))) (hy : ev L y = some (.int .i64 (m : Int))) (hm : by_ * m ≤ 281474976710656) (h63 : m ≤ 281474976710656)
    (h : ∀ b, K ((d, .slice (some ⟨b, 0, none⟩) m m) :: L) (.row (some ⟨b, 0, none⟩) m e sz m ((List.replicate m z).flatMap enc) :: H)) :
    One P n w0 F ⟨some d, .makeSlice T x y, ty, pos, aft, g⟩ L H K := by
  obtain ⟨inf, hu, hinf, hs1, hs2⟩ := elT_info hT
  obtain ⟨inf', zv, hinf', hz', hzc⟩ := zero_cells hz
  rw [hinf] at hinf'
  simp only [Option.some.injEq] at hinf'
  subst hinf'
  refine One.mem (by simpa [dstOk] using hd) fun a w ha hw => ?_
  have hr := run_make (P := P) w T e inf zv hu hinf hz' .i64 .i64 m m (by omega) (Int.le_refl _) (by
    rw [hs2, ← Int.natCast_mul]; omega) (by omega)
  simp only [Int.toNat_natCast, hzc, hs1, hze] at hr
  have hfl := madeCells_flat henc hsz z m
  have hrow := row_lit (w := w) (T := e) (sz := sz) (m := m) ((List.replicate m z).flatMap enc) (by rw [flat_len henc]; simp) (by simp only [maxLen]; omega)
  rw [← hfl] at hrow
  simp only [Array.toArray_toList] at hrow
  refine ⟨.slice (some ⟨w.heap.size, 0, none⟩) m m, _, _, ?_, hw.push (below_alloc w _) hrow (by simp [HEnt.block]), ?_⟩
  · simp only [execOp, Sem.run_bind, Sem.run_pure, Result.andThen_ok, ha.ev hx, ha.ev hy, hr]
  · rw [hfl]; exact h w.heap.size
end

/-! ### A region that draws its order and makes or writes memory: what is free is taken first, the rest comes up in one forced order -/
section
variable {P : Program} {n : Nat} {w0 : World} {F : List Nat} {H : List HEnt} {L : Env}

def DOps (P : Program) (n : Nat) (w0 : World) (F : List Nat) (Hs : List HEnt) (l0 : List Oper) (fuel : Nat) (listed : Array Bool) (L : Env) (H : List HEnt) (Q : Env → List HEnt → Prop) : Prop :=
  ∀ a w, Fr n L a → HOk w0 F H w → wpAnyH P .any l0.toArray (SPost n w0 F Q) (HOk w0 F Hs) fuel listed a w

def nthOp : List Oper → Nat → Option Oper
  | [], _ => none
  | o :: _, 0 => some o
  | _ :: r, k + 1 => nthOp r k
theorem nthOp_eq : ∀ (l : List Oper) (j : Nat), nthOp l j = l.toArray[j]?
  | [], j => by simp [nthOp]
  | o :: r, 0 => by simp [nthOp]
  | o :: r, k + 1 => by simp [nthOp, nthOp_eq r k]

/-- What number i waits for has come up, and nobody that has not can touch what it touches. -/
def freeB (l0 : List Oper) (listed : Array Bool) (i : Nat) : Bool := Region.noSelect l0.toArray && Region.free .any l0.toArray listed i && (Region.ready .any l0.toArray listed).contains i

theorem DOps.take {Hs : List HEnt} {l0 : List Oper} {fuel : Nat} {listed listed' : Array Bool} {d : Nat} {op : Op} {ty : TypeId} {pos : String} {aft : Array Edge} {g : Option (Nat × Bool)} {v : Value} {Q : Env → List HEnt → Prop} (i : Nat) (hi : nthOp l0 i = some ⟨some d, op, ty, pos, aft, g⟩)
    (hf : freeB l0 listed i = true) (hl : listed.setIfInBounds i true = listed') (hs : Hs.Sublist H) (hg : wantedL l0 L g = some true) (hd : Nat.blt d n = true) (hy : Yv P n w0 F Hs L ⟨some d, op, ty, pos, aft, g⟩ v) (h : DOps P n w0 F Hs l0 fuel listed' ((d, v) :: L) H Q) :
    DOps P n w0 F Hs l0 (fuel + 1) listed L H Q := fun a w ha hw => by
  subst hl
  simp only [freeB, Bool.and_eq_true] at hf
  obtain ⟨⟨h1, h2⟩, h3⟩ := hf
  exact wpAnyH_take (by rw [← nthOp_eq]; exact hi) h1 h2 h3 (fun _ _ _ h => by cases h.1) (.inl ⟨wantedL_eq (o := ⟨some d, op, ty, pos, aft, g⟩) ha hg, fun w hw => hy a w ha hw⟩) (hw.sub hs) (h _ _ (ha.put (d := some d) v hd) hw)

theorem DOps.only {Hs : List HEnt} {l0 : List Oper} {fuel : Nat} {listed listed' : Array Bool} {o : Oper} {Q : Env → List HEnt → Prop} (i : Nat) (hi : nthOp l0 i = some o) (hr : Region.ready .any l0.toArray listed = [i]) (hl : listed.setIfInBounds i true = listed')
    (hg : wantedL l0 L o.guard = some true) (h : One P n w0 F o L H (fun L' H' => Hs.Sublist H' ∧ DOps P n w0 F Hs l0 fuel listed' L' H' Q)) : DOps P n w0 F Hs l0 (fuel + 1) listed L H Q := fun a w ha hw => by
  subst hl
  refine wpAnyH_all hr (by simp) fun j hj => ?_
  rw [List.mem_singleton] at hj
  subst hj
  unfold wpOp
  rw [← nthOp_eq, hi]
  simp only
  rw [if_pos (wantedL_eq ha hg)]
  exact .inl (h a w _ _ ha hw (fun a' w' L' H' h1 h2 ⟨h3, h4⟩ => ⟨h2.sub h3, h4 a' w' h1 h2⟩))

/-- Two may come up: each is walked. -/
theorem DOps.fork2 {Hs : List HEnt} {l0 : List Oper} {fuel : Nat} {listed l1 l2 : Array Bool} {o1 o2 : Oper} {Q : Env → List HEnt → Prop} (i1 i2 : Nat) (hi1 : nthOp l0 i1 = some o1) (hi2 : nthOp l0 i2 = some o2) (hr : Region.ready .any l0.toArray listed = [i1, i2])
    (hl1 : listed.setIfInBounds i1 true = l1) (hl2 : listed.setIfInBounds i2 true = l2) (hg1 : wantedL l0 L o1.guard = some true) (hg2 : wantedL l0 L o2.guard = some true)
    (h1 : One P n w0 F o1 L H (fun L' H' => Hs.Sublist H' ∧ DOps P n w0 F Hs l0 fuel l1 L' H' Q)) (h2 : One P n w0 F o2 L H (fun L' H' => Hs.Sublist H' ∧ DOps P n w0 F Hs l0 fuel l2 L' H' Q)) : DOps P n w0 F Hs l0 (fuel + 1) listed L H Q := fun a w ha hw => by
  subst hl1; subst hl2
  refine wpAnyH_all hr (by simp) fun j hj => ?_
  unfold wpOp
  rw [← nthOp_eq]
  simp only [List.mem_cons, List.not_mem_nil, or_false] at hj
  rcases hj with rfl | rfl
  · rw [hi1]
    simp only
    rw [if_pos (wantedL_eq ha hg1)]
    exact .inl (h1 a w _ _ ha hw (fun a' w' L' H' x1 x2 ⟨x3, x4⟩ => ⟨x2.sub x3, x4 a' w' x1 x2⟩))
  · rw [hi2]
    simp only
    rw [if_pos (wantedL_eq ha hg2)]
    exact .inl (h2 a w _ _ ha hw (fun a' w' L' H' x1 x2 ⟨x3, x4⟩ => ⟨x2.sub x3, x4 a' w' x1 x2⟩))

theorem DOps.done {Hs : List HEnt} {l0 : List Oper} {fuel : Nat} {listed : Array Bool} {Q : Env → List HEnt → Prop} (hr : Region.ready .any l0.toArray listed = []) (h : Q L H) : DOps P n w0 F Hs l0 fuel listed L H Q := fun _ _ ha hw =>
  wpAnyH_done hr ⟨rfl, L, H, ha, hw, h⟩ _

theorem DOps.start {Hs : List HEnt} {l : List Oper} {m : Nat} {listed : Array Bool} {id : Nat} {Q : Exit → Env → List HEnt → Prop} (hm : P.follows .mixedOrders = true) (hl : l.length = m) (hL : Array.replicate m false = listed)
    (h : DOps P n w0 F Hs l m listed L H (fun L' H' => Q .normal L' H')) (a : Act) (w : World) (ha : Fr n L a) (hw : HOk w0 F H w) :
    (Code.region id l.toArray true).wp P (fun e a w => ∃ L H, Fr n L a ∧ HOk w0 F H w ∧ Q e L H) a w := by
  subst hl; subst hL
  have hd := h a _ ha hw.drew
  have hsz : l.toArray.size = l.length := by simp
  rw [← hsz] at hd
  have := wp_region_held (id := id) (S := HOk w0 F Hs) hm hd
  exact Code.wp_mono (fun e a' w' ⟨he, L', H', h1, h2, h3⟩ => by subst he; exact ⟨L', H', h1, h2, h3⟩) this
end

/-! ### Code -/
section
variable {P : Program} {n : Nat} {w0 : World} {F : List Nat} {H : List HEnt} {L : Env}

def Run (P : Program) (n : Nat) (w0 : World) (F : List Nat) (c : Code) (L : Env) (H : List HEnt) (Q : Exit → Env → List HEnt → Prop) : Prop :=
  ∀ a w, Fr n L a → HOk w0 F H w → c.wp P (fun e a w => ∃ L H, Fr n L a ∧ HOk w0 F H w ∧ Q e L H) a w

def thenQ (R : Env → List HEnt → Prop) (Q : Exit → Env → List HEnt → Prop) : Exit → Env → List HEnt → Prop
  | .normal, L, H => R L H
  | e, L, H => Q e L H
def blkQ (id : Nat) (Q : Exit → Env → List HEnt → Prop) : Exit → Env → List HEnt → Prop
  | .exit id', L, H => if id' = id then Q .normal L H else Q (.exit id') L H
  | e, L, H => Q e L H

theorem Run.mono {c : Code} {Q Q' : Exit → Env → List HEnt → Prop} (hq : ∀ e L H, Q e L H → Q' e L H) (h : Run P n w0 F c L H Q) : Run P n w0 F c L H Q' := fun a w ha hw =>
  Code.wp_mono (fun _ _ _ ⟨L', H', h1, h2, h3⟩ => ⟨L', H', h1, h2, hq _ _ _ h3⟩) (h a w ha hw)
/-- What is not asked of the frame and of the heap any more is let go. -/
theorem Run.weaken {c : Code} {L' : Env} {H' : List HEnt} {Q : Exit → Env → List HEnt → Prop} (hL : SubE L' L) (hH : H'.Sublist H) (h : Run P n w0 F c L' H' Q) : Run P n w0 F c L H Q := fun a w ha hw => h a w (ha.sub hL) (hw.sub hH)
theorem Run.skip {Q : Exit → Env → List HEnt → Prop} (h : Q .normal L H) : Run P n w0 F .skip L H Q := fun _ _ ha hw => wp_skip ⟨L, H, ha, hw, h⟩
theorem Run.exit {id : Nat} {Q : Exit → Env → List HEnt → Prop} (h : Q (.exit id) L H) : Run P n w0 F (.exit id) L H Q := fun _ _ ha hw => wp_exit ⟨L, H, ha, hw, h⟩
theorem Run.ret {Q : Exit → Env → List HEnt → Prop} (h : Q .ret L H) : Run P n w0 F .ret L H Q := fun _ _ ha hw => wp_ret ⟨L, H, ha, hw, h⟩
theorem Run.seq {x y : Code} {Q : Exit → Env → List HEnt → Prop} (h : Run P n w0 F x L H (thenQ (fun L H => Run P n w0 F y L H Q) Q)) : Run P n w0 F (.seq x y) L H Q := fun a w ha hw =>
  wp_seq (Code.wp_mono (fun e a' w' ⟨L', H', h1, h2, h3⟩ => by
    cases e <;> first | exact h3 a' w' h1 h2 | exact ⟨L', H', h1, h2, h3⟩) (h a w ha hw))
theorem Run.block {id : Nat} {c : Code} {Q : Exit → Env → List HEnt → Prop} (h : Run P n w0 F c L H (blkQ id Q)) : Run P n w0 F (.block id c) L H Q := fun a w ha hw =>
  wp_block (Code.wp_mono (fun e a' w' ⟨L', H', h1, h2, h3⟩ => by
    cases e
    case exit id' =>
      simp only [blkQ] at h3
      simp only [Exit.inBlock]
      split
      · rename_i hid; rw [if_pos hid] at h3; exact ⟨L', H', h1, h2, h3⟩
      · rename_i hid; rw [if_neg hid] at h3; exact ⟨L', H', h1, h2, h3⟩
    all_goals exact ⟨L', H', h1, h2, h3⟩) (h a w ha hw))
theorem Run.cond {c : Operand} {x y : Code} {b : Bool} {Q : Exit → Env → List HEnt → Prop} (hc : ev L c = some (.bool b)) (ht : b = true → Run P n w0 F x L H Q) (hf : b = false → Run P n w0 F y L H Q) : Run P n w0 F (.cond c x y) L H Q := fun a w ha hw =>
  wp_cond_split (ha.ev hc) (fun h => ht h a w ha hw) (fun h => hf h a w ha hw)
/-- A region whose operations are quiet, in whatever order. -/
theorem Run.quiet {id : Nat} {l : List Oper} {draw : Bool} {Q : Exit → Env → List HEnt → Prop} (hB : draw = true → P.follows .mixedOrders = true ∧ Region.lexB .any l.toArray = true)
    (h : QOps P n w0 F H l l L (fun L' => Q .normal L' H)) : Run P n w0 F (.region id l.toArray draw) L H Q := fun a w ha hw => by
  have hq := h a ha
  cases draw with
  | true =>
    obtain ⟨hm, hl⟩ := hB rfl
    refine wp_region_quiet hm hl hw.drew ?_
    exact wpQuiet_mono (fun a' ⟨L', h1, h2⟩ w' hw' => ⟨L', H, h1, hw', h2⟩) hq
  | false =>
    refine wp_region_lit ?_
    have key : ∀ (l : List Oper) (a : Act) (w : World) (l0 : Array Oper) (R : Act → Prop) (Q' : Exit → Act → World → Prop), (∀ a w, HOk w0 F H w → R a → Q' .normal a w) → HOk w0 F H w → wpQuiet P l0 (HOk w0 F H) R l a → wpList P l0 Q' l a w := by
      intro l
      induction l with
      | nil => exact fun a w l0 R Q' hR hw h => hR _ _ hw h
      | cons o r ih =>
        intro a w l0 R Q' hR hw h
        unfold wpQuiet at h
        unfold wpList
        split
        · rename_i hwd
          rw [if_pos hwd] at h
          exact .inl (Oper.wp_of_quiet hw (fun a' w' hw' hk => ih a' w' l0 R Q' hR hw' hk) h)
        · rename_i hwd
          rw [if_neg hwd] at h
          exact ih _ w l0 R Q' hR hw h
    exact key l a w _ _ _ (fun a' w' hw' ⟨L', h1, h2⟩ => ⟨L', H, h1, hw', h2⟩) hw hq
/-- A region in the order of the text. -/
theorem Run.ops {id : Nat} {l : List Oper} {Q : Exit → Env → List HEnt → Prop} (h : SOps P n w0 F l l L H (fun L' H' => Q .normal L' H')) : Run P n w0 F (.region id l.toArray false) L H Q := fun a w ha hw =>
  Code.wp_mono (fun e a' w' ⟨he, L', H', h1, h2, h3⟩ => by subst he; exact ⟨L', H', h1, h2, h3⟩) (wp_region_lit (h a w ha hw))
/-- A region in whatever order, that makes or writes memory. -/
theorem Run.draws (f : List HEnt → List HEnt) {l : List Oper} {m : Nat} {listed : Array Bool} {id : Nat} {Q : Exit → Env → List HEnt → Prop} (hm : P.follows .mixedOrders = true) (hl : l.length = m) (hL : Array.replicate m false = listed)
    (h : DOps P n w0 F (f H) l m listed L H (fun L' H' => Q .normal L' H')) : Run P n w0 F (.region id l.toArray true) L H Q := fun a w ha hw => DOps.start hm hl hL h a w ha hw
/-- A loop: its state s lays out the frame and the heap at every round's head. -/
theorem Run.loop {S : Type} {c : Code} {Q : Exit → Env → List HEnt → Prop} (inv : S → Prop) (EL : S → Env) (HL : S → List HEnt) (μ : S → Nat) (s0 : S) (h0 : inv s0) (hL : SubE (EL s0) L) (hH : (HL s0).Sublist H)
    (round : ∀ s, inv s → Run P n w0 F c (EL s) (HL s) (thenQ (fun L' H' => ∃ s', inv s' ∧ μ s' < μ s ∧ SubE (EL s') L' ∧ (HL s').Sublist H') Q)) : Run P n w0 F (.loop c) L H Q := fun a w ha hw => by
  intro b kk cs
  have key : ∀ k s a w, μ s = k → inv s → Fr n (EL s) a → HOk w0 F (HL s) w →
      ∃ e a' w', (∃ L H, Fr n L a' ∧ HOk w0 F H w' ∧ Q e L H) ∧ Arrives P (lone (b.at a (.code c :: .inLoop c :: kk)) cs w) b kk cs e a' w' := by
    intro k
    induction k using Nat.strongRecOn with
    | _ k ih =>
      intro s a w hk hi ha hw
      obtain ⟨e, a₁, w₁, ⟨L1, H1, hf1, hh1, hq1⟩, harr⟩ := round s hi a w ha hw b (.inLoop c :: kk) cs
      cases e with
      | normal =>
        obtain ⟨s', hi', hlt, hL', hH'⟩ := hq1
        obtain ⟨e₂, a₂, w₂, hq₂, harr₂⟩ := ih (μ s') (hk ▸ hlt) s' a₁ w₁ rfl hi' (hf1.sub hL') (hh1.sub hH')
        exact ⟨e₂, a₂, w₂, hq₂, .of_steps (Steps.trans harr (.one step_inLoop)) harr₂⟩
      | exit id => exact ⟨_, a₁, w₁, ⟨L1, H1, hf1, hh1, hq1⟩, .pass (x := .inLoop c) rfl (fun _ _ => .inl (by simp)) harr⟩
      | goto l => exact ⟨_, a₁, w₁, ⟨L1, H1, hf1, hh1, hq1⟩, .pass (x := .inLoop c) rfl (fun _ _ => .inl (by simp)) harr⟩
      | ret => exact ⟨_, a₁, w₁, ⟨L1, H1, hf1, hh1, hq1⟩, .pass (x := .inLoop c) rfl (fun _ _ => .inl (by simp)) harr⟩
      | panic ch => exact ⟨_, a₁, w₁, ⟨L1, H1, hf1, hh1, hq1⟩, .pass (x := .inLoop c) rfl (fun _ _ => .inl (by simp)) harr⟩
      | outgrown => exact ⟨_, a₁, w₁, ⟨L1, H1, hf1, hh1, hq1⟩, .pass (x := .inLoop c) rfl (fun _ _ => .inl (by simp)) harr⟩
  obtain ⟨e, a', w', hq, harr⟩ := key _ s0 a w rfl h0 (ha.sub hL) (hw.sub hH)
  exact ⟨e, a', w', hq, .of_steps (.one step_loop) harr⟩

/-! ### From the code to the call -/
/-- The value of a result variable. -/
inductive Res (P : Program) (L : Env) (H : List HEnt) : List ResultVar → List Value → Prop
  | nil : Res P L H [] []
  | tmp {t : Nat} {v : Value} {rs : List ResultVar} {vs : List Value} (h : L.lookup t = some v) (hs : Res P L H rs vs) : Res P L H (.tmp t :: rs) (v :: vs)
  | cells {t T T' b i s : Nat} {cs : List Value} {rs : List ResultVar} {vs : List Value} (h : L.lookup t = some (.pointer (some ⟨b, 0, none⟩))) (hT : layT P T = some (true, s)) (hi : H[i]? = some (.blk b T' cs)) (hl : cs.length = s)
    (hs : Res P L H rs vs) : Res P L H (.cell t T :: rs) (.agg cs.toArray :: vs)
  | cell {t T T' b i : Nat} {v : Value} {rs : List ResultVar} {vs : List Value} (h : L.lookup t = some (.pointer (some ⟨b, 0, none⟩))) (hT : layT P T = some (false, 1)) (hi : H[i]? = some (.blk b T' [v]))
    (hs : Res P L H rs vs) : Res P L H (.cell t T :: rs) (v :: vs)

theorem run_asAddr (p : Addr) (w : World) : (asAddr (.pointer (some p))).run P w = .ok p w := rfl

def single (vs : List Value) : Value :=
  match vs with
  | [v] => v
  | vs => .tuple vs.toArray

theorem run_results {fn : Func} {rs : List ResultVar} {vs : List Value} {a : Act} {w : World} (hr : fn.results = rs.toArray) (ha : Fr n L a) (hw : HOk w0 F H w) (h : Res P L H rs vs) :
    (results fn a.tmps).run P w = .ok (single vs) w := by
  have key : ∀ (f : ResultVar → Sem Value), (∀ t, f (.tmp t) = pure (a.tmps.getD t undef)) → (∀ ad t, f (.cell ad t) = (do loadVar t (← asAddr (a.tmps.getD ad undef)))) →
      ∀ (rs : List ResultVar) (vs : List Value), Res P L H rs vs → (rs.mapM f).run P w = Result.ok vs w := by
    intro f hf1 hf2 rs vs h
    induction h with
    | nil => simp
    | tmp h hs ih =>
      have e := Fr.ev (x := .tmp _) ha h
      simp only [Act.eval] at e
      simp only [List.mapM_cons, hf1, Sem.run_bind, Sem.run_pure, Result.andThen_ok, ih, e]
    | cells h hT hi hl hs ih =>
      rename_i t T T' b i s cs rs vs
      have hb := hw.ent _ (List.mem_of_getElem? hi)
      have hc : ∀ j v, cs[j]? = some v → w.cell? ((⟨b, 0, none⟩ : Addr).add j) = some v := fun j v hv => by
        rw [add_row, cell_of_row w b j _ _ _ hb]; simpa using hv
      have e := Fr.ev (x := .tmp _) ha h
      simp only [Act.eval] at e
      simp only [List.mapM_cons, hf2, Sem.run_bind, Sem.run_pure, Result.andThen_ok, ih, e, run_asAddr, run_loadVar_agg hT hl hc]
    | cell h hT hi hs ih =>
      rename_i t T T' b i v rs vs
      have hb := hw.ent _ (List.mem_of_getElem? hi)
      have hc : w.cell? ⟨b, 0, none⟩ = some v := by rw [cell_of_row w b 0 _ _ _ hb]; simp
      have e := Fr.ev (x := .tmp _) ha h
      simp only [Act.eval] at e
      simp only [List.mapM_cons, hf2, Sem.run_bind, Sem.run_pure, Result.andThen_ok, ih, e, run_asAddr, run_loadVar_scalar hT hc]
  unfold results
  rw [hr, List.mapM_toArray]
  rw [Sem.run_bind, Sem.run_map, key _ ?h1 ?h2 rs vs h]
  case h1 => intro t; rfl
  case h2 => intro ad t; rfl
  simp only [Result.andThen_ok, Sem.run_pure]
  match vs with
  | [] => rfl
  | [v] => rfl
  | u :: v :: r =>
    have hne : ¬ (u :: v :: r).toArray.size = 1 := by simp
    rw [dif_neg hne]
    rfl

def retQ (P : Program) (fn : Func) (w0 : World) (F : List Nat) (R : Ending → World → Prop) : Exit → Env → List HEnt → Prop
  | .normal, L, H | .ret, L, H => ∃ vs, Res P L H fn.results.toList vs ∧ ∀ w, HOk w0 F H w → R (.returned (single vs)) w
  | _, _, _ => False

theorem retQ.of {fn : Func} {R : Ending → World → Prop} {e : Exit} {rs : List ResultVar} {vs : List Value} (he : e = .normal ∨ e = .ret) (hr : fn.results = rs.toArray) (h : Res P L H rs vs) (hR : ∀ w, HOk w0 F H w → R (.returned (single vs)) w) : retQ P fn w0 F R e L H := by
  rcases he with rfl | rfl
  · exact ⟨vs, by rw [hr]; exact h, hR⟩
  · exact ⟨vs, by rw [hr]; exact h, hR⟩

def argE : List Value → Nat → Env
  | [], _ => []
  | v :: vs, k => (k, v) :: argE vs (k + 1)

theorem argE_get : ∀ (vs : List Value) (k t : Nat) (v : Value), (argE vs k).lookup t = some v → k ≤ t ∧ vs[t - k]? = some v
  | [], k, t, v, h => by simp [argE] at h
  | u :: vs, k, t, v, h => by
    simp only [argE, List.lookup] at h
    by_cases ht : t = k
    · subst ht; simp at h; simp [h]
    · have hb : (t == k) = false := by simpa using ht
      rw [hb] at h
      obtain ⟨h1, h2⟩ := argE_get vs (k + 1) t v h
      refine ⟨by omega, ?_⟩
      have : t - k = (t - (k + 1)) + 1 := by omega
      rw [this]
      simpa using h2

theorem calls_of_run {f : FuncId} {fn : Func} {c : Code} {vs : List Value} {w : World} {H : List HEnt} {L : Env} {R : Ending → World → Prop} (hf : P.funcs[f]? = some fn) (hb : fn.body = some c) (hn : fn.ntmps = n) (hv : Nat.ble vs.length n = true)
    (hL : argE vs 0 = L) (hH : HOk w F H w) (h : Run P n w F c L H (retQ P fn w F R)) : Calls P f vs.toArray w R := by
  have hv' : vs.length ≤ n := by simpa using hv
  subst hL
  refine Go.calls_of_wp hf hb (Code.wp_mono ?_ (h _ w ⟨?_, rfl, ?_⟩ hH))
  · intro e a w' ⟨L', H', h1, h2, h3⟩
    cases e <;> first
      | (obtain ⟨vs', hr, hR⟩ := h3; exact ⟨h1.defers, _, run_results (fn := fn) (rs := fn.results.toList) (by simp) h1 h2 hr, hR _ h2⟩)
      | exact h3.elim
  · simp [hn]; omega
  · intro t v hlk
    obtain ⟨_, h2⟩ := argE_get vs 0 t v hlk
    have hlt : t < vs.length := by
      rcases Nat.lt_or_ge t vs.length with h1 | h1
      · exact h1
      · simp [List.getElem?_eq_none h1] at h2
    simp only [Nat.sub_zero] at h2
    rw [Array.getElem?_append_left (by simpa using hlt)]
    simpa using h2
end
end Go.Proofs.YtlpgcbkialcjcaaGreatDoor
