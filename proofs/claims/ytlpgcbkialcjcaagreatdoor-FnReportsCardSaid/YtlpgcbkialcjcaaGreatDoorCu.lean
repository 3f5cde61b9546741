/- Drawing: a cursor over bytes, which a call is lent by its address; conversions of numbers. Conditions: none; proved of any program. -/
import Derived.Test.YtlpgcbkialcjcaaGreatDoorSx
namespace Go.Proofs.YtlpgcbkialcjcaaGreatDoor
open Go.RowKit
set_option maxRecDepth 100000

def byteC (b : UInt8) : List Value := [.int .u8 (b.toNat : Int)]
theorem byteC_len (b : UInt8) : (byteC b).length = 1 := rfl

section
variable {P : Program} {n : Nat} {w0 : World} {F : List Nat} {H : List HEnt} {L : Env}
theorem Rd.argN {sz : Nat} {A : Option Addr} {m c : Nat} {xs : List Value} (h : Sl w0 sz A m c xs) (hF : 0 < m → (adr A).block ∉ F) : Rd w0 F H sz A m c xs := fun w hw => by
  refine ⟨h.len, h.cap, h.max, fun hn => ?_⟩
  obtain ⟨h1, h2, h3⟩ := h.at_ hn
  exact ⟨h1, Nat.lt_of_lt_of_le h2 hw.bel.size, fun j u hu => (World.cell?_of_block (hw.bel.block _ (by rw [add_block]; exact h2) (by rw [add_block]; exact hF hn))).trans (h3 j u hu)⟩

section
variable {ty : TypeId} {pos : String} {aft : Array Edge} {g : Option (Nat × Bool)} {d : Option Nat} {T T' : TypeId} {x y : Operand}
def intT (P : Program) (T : TypeId) : Option IntKind :=
  match P.underlying T with
  | some (.int k) => some k
  | _ => none
theorem intT_u {k : IntKind} (h : intT P T = some k) : P.underlying T = some (.int k) := by
  unfold intT at h
  split at h
  · rename_i k' hk
    simp only [Option.some.injEq] at h
    subst h
    exact hk
  · cases h
theorem Yv.conv {k k' : IntKind} {i : Int} (hS : intT P T = some k') (hT : intT P T' = some k) (hx : ev L x = some (.int k' i)) : Yv P n w0 F H L ⟨d, .convert T T' x, ty, pos, aft, g⟩ (.int k (k.wrap i)) := fun a w ha hw => by
  simp [execOp, ha.ev hx, convert, run_underlying (intT_u hS), run_underlying (intT_u hT), Conv.intToInt]
theorem Yv.convT {k k' : IntKind} {i j : Int} (hS : intT P T = some k') (hT : intT P T' = some k) (hx : ev L x = some (.int k' i)) (hj : k.wrap i = j) : Yv P n w0 F H L ⟨d, .convert T T' x, ty, pos, aft, g⟩ (.int k j) := hj ▸ Yv.conv hS hT hx
theorem Yv.shr {k k' : IntKind} {i j : Int} (hx : ev L x = some (.int k i)) (hy : ev L y = some (.int k' j)) (hj : 0 ≤ j) : Yv P n w0 F H L ⟨d, .binOp .shr T x y T', ty, pos, aft, g⟩ (.int k (i.fdiv (2 ^ (min j.toNat k.bits)))) := fun a w ha hw => by
  have h1 : ¬ j < 0 := by omega
  simp [execOp, ha.ev hx, ha.ev hy, eqGuard, binOp, Op.shift, h1]
theorem Yv.and {k : IntKind} {i j : Int} (hx : ev L x = some (.int k i)) (hy : ev L y = some (.int k j)) : Yv P n w0 F H L ⟨d, .binOp .and T x y T', ty, pos, aft, g⟩ (.int k (k.wrap ((BitVec.ofInt k.bits i &&& BitVec.ofInt k.bits j).toNat : Int))) := fun a w ha hw => by
  simp [execOp, ha.ev hx, ha.ev hy, eqGuard, binOp, Op.intBits]
theorem Yv.nilCheck {p : Addr} (hx : ev L x = some (.pointer (some p))) : Yv P n w0 F H L ⟨d, .nilCheck x, ty, pos, aft, g⟩ (.pointer (some p)) := fun a w ha hw => by
  simp [execOp, ha.ev hx]
end

section
variable {ty : TypeId} {pos : String} {aft : Array Edge} {g : Option (Nat × Bool)} {d : Option Nat} {T T' : TypeId} {x y : Operand}
theorem Yv.addN {a b : Nat} (hx : ev L x = some (.int .i64 (a : Int))) (hy : ev L y = some (.int .i64 (b : Int))) (h : a + b ≤ 9223372036854775807) : Yv P n w0 F H L ⟨d, .binOp .add T x y T', ty, pos, aft, g⟩ (.int .i64 ((a + b : Nat) : Int)) := by
  have := Yv.add (P := P) (n := n) (w0 := w0) (F := F) (H := H) (ty := ty) (pos := pos) (aft := aft) (g := g) (d := d) (T := T) (T' := T') hx hy (by omega)
  simpa using this
theorem Yv.quoP {i j : Int} (hx : ev L x = some (.int .i64 i)) (hy : ev L y = some (.int .i64 j)) (h0 : 0 ≤ i) (h1 : i ≤ 9223372036854775807) (hj : 0 < j) : Yv P n w0 F H L ⟨d, .binOp .quo T x y T', ty, pos, aft, g⟩ (.int .i64 (i / j)) := by
  have h := Yv.quo (P := P) (n := n) (w0 := w0) (F := F) (H := H) (ty := ty) (pos := pos) (aft := aft) (g := g) (d := d) (T := T) (T' := T') hx hy (by omega)
  have h2 : 0 ≤ i / j := Int.ediv_nonneg h0 (by omega)
  have h3 : i / j ≤ i := Int.ediv_le_self j h0
  rwa [Int.tdiv_eq_ediv_of_nonneg h0, wrap_fit (by omega) (by omega)] at h
end
section
variable {ty : TypeId} {pos : String} {aft : Array Edge} {g : Option (Nat × Bool)} {d : Option Nat} {c x y : Operand}
theorem Yv.pickT {v : Value} (hc : ev L c = some (.bool true)) (hx : ev L x = some v) : Yv P n w0 F H L ⟨d, .pick c x y, ty, pos, aft, g⟩ v := fun a w ha hw => by
  simp [execOp, ha.ev hc, asBool, ha.ev hx]
theorem Yv.pickF {v : Value} (hc : ev L c = some (.bool false)) (hy : ev L y = some v) : Yv P n w0 F H L ⟨d, .pick c x y, ty, pos, aft, g⟩ v := fun a w ha hw => by
  simp [execOp, ha.ev hc, asBool, ha.ev hy]
end
theorem SOps.skN {l0 rest : List Oper} {op : Op} {ty : TypeId} {pos : String} {aft : Array Edge} {g : Option (Nat × Bool)} {Q : Env → List HEnt → Prop} (hw : wantedL l0 L g = some false)
    (h : SOps P n w0 F l0 rest L H Q) : SOps P n w0 F l0 (⟨none, op, ty, pos, aft, g⟩ :: rest) L H Q := SOps.skip hw rfl h
/-- A truth value is one or the other. -/
theorem SOps.split {l0 l : List Oper} {m : Nat} {b : Bool} {Q : Env → List HEnt → Prop} (ht : b = true → SOps P n w0 F l0 l ((m, .bool true) :: L) H Q) (hf : b = false → SOps P n w0 F l0 l ((m, .bool false) :: L) H Q) : SOps P n w0 F l0 l ((m, .bool b) :: L) H Q := by
  cases b
  · exact hf rfl
  · exact ht rfl
theorem wrap_byte {b : UInt8} : IntKind.i64.wrap (b.toNat : Int) = (b.toNat : Int) := wrap_fit (by omega) (by have := b.toNat_lt; omega)
theorem and255 {i : Int} : 0 ≤ IntKind.i64.wrap (IntKind.u64.wrap ((BitVec.ofInt IntKind.u64.bits i &&& BitVec.ofInt IntKind.u64.bits 255).toNat : Int)) ∧ IntKind.i64.wrap (IntKind.u64.wrap ((BitVec.ofInt IntKind.u64.bits i &&& BitVec.ofInt IntKind.u64.bits 255).toNat : Int)) ≤ 255 := by
  have h : (BitVec.ofInt IntKind.u64.bits i &&& BitVec.ofInt IntKind.u64.bits 255).toNat ≤ 255 := by
    rw [BitVec.toNat_and]
    exact Nat.and_le_right
  generalize (BitVec.ofInt IntKind.u64.bits i &&& BitVec.ofInt IntKind.u64.bits 255).toNat = z at *
  have e : IntKind.u64.wrap (z : Int) = (z : Int) := by
    simp [IntKind.wrap, IntKind.bits, IntKind.signed]
    omega
  rw [e, wrap_fit (by omega) (by omega)]
  omega

/-- The cursor's variable, and that the bytes are apart from it. -/
structure Cur (w : World) (T g : Nat) (A : Option Addr) (m c : Nat) (xs : List UInt8) (at_ sd : Int) : Prop where
  blk : (HEnt.blk g T [.slice A m c, .int .i64 at_, .int .u64 sd]).ok w
  code : Sl w 1 A m c (xs.flatMap byteC)
  ne : 0 < m → (adr A).block ≠ g

theorem Cur.own {w : World} {T g : Nat} {A : Option Addr} {m c i : Nat} {xs : List UInt8} {at_ sd : Int} (hs : Sl w0 1 A m c (xs.flatMap byteC)) (hi : H[i]? = some (.blk g T [.slice A m c, .int .i64 at_, .int .u64 sd])) (hw : HOk w0 [] H w) : Cur w T g A m c xs at_ sd := by
  have hm := List.mem_of_getElem? hi
  refine ⟨hw.ent _ hm, Rd.arg hs w hw, fun h e => ?_⟩
  have h1 := (hs.at_ h).2.1
  rcases hw.own _ hm g rfl with h2 | h2
  · omega
  · cases h2
theorem Cur.lent {w : World} {T g : Nat} {A : Option Addr} {m c i : Nat} {xs : List UInt8} {at_ at0 sd sd0 : Int} (hc : Cur w0 T g A m c xs at0 sd0) (hi : H[i]? = some (.blk g T [.slice A m c, .int .i64 at_, .int .u64 sd])) (hw : HOk w0 [g] H w) : Cur w T g A m c xs at_ sd :=
  ⟨hw.ent _ (List.mem_of_getElem? hi), Rd.argN hc.code (fun h => by simpa using hc.ne h) w hw, hc.ne⟩
theorem Cur.rd {T g : Nat} {A : Option Addr} {m c : Nat} {xs : List UInt8} {at0 sd0 : Int} (hc : Cur w0 T g A m c xs at0 sd0) : Rd w0 [g] H 1 A m c (xs.flatMap byteC) := Rd.argN hc.code (fun h => by simpa using hc.ne h)

/-- A call moves the cursor on by at most B and hands back some value of a kind. -/
def RetC {X : Type} (w : World) (T g : Nat) (cd : Value) (at_ B : Int) (val : X → Value) (ok : X → Prop) (e : Ending) (w' : World) : Prop :=
  ∃ (x : X) (at' sd' : Int), e = .returned (val x) ∧ ok x ∧ at_ ≤ at' ∧ at' ≤ at_ + B ∧ Bel [g] w w' ∧ (HEnt.blk g T [cd, .int .i64 at', .int .u64 sd']).ok w'
/-- The same, with a row in new memory. -/
def RetCR {X α : Type} (w : World) (T g : Nat) (cd : Value) (at_ B : Int) (T' sz : Nat) (enc : α → List Value) (row : X → List α) (mk : X → Value → Value) (ok : X → Prop) (e : Ending) (w' : World) : Prop :=
  ∃ (x : X) (A : Option Addr) (c : Nat) (at' sd' : Int), e = .returned (mk x (.slice A (row x).length c)) ∧ ok x ∧ at_ ≤ at' ∧ at' ≤ at_ + B ∧ Bel [g] w w' ∧ (HEnt.blk g T [cd, .int .i64 at', .int .u64 sd']).ok w' ∧ (HEnt.row A c T' sz (row x).length ((row x).flatMap enc)).ok w' ∧ ∀ b, A.map (·.block) = some b → w.heap.size ≤ b

theorem retCR_of {X α : Type} {w w' : World} {T g n : Nat} {cd : Value} {at_ B : Int} {T' sz : Nat} {enc : α → List Value} {row : X → List α} {mk : X → Value → Value} {ok : X → Prop} {e : Ending} (x : X) {A : Option Addr} {c : Nat} {at' sd' : Int} (hn : (row x).length = n) (he : e = .returned (mk x (.slice A n c))) (hok : ok x) (h1 : at_ ≤ at') (h2 : at' ≤ at_ + B) (hb : Bel [g] w w')
    (hg : (HEnt.blk g T [cd, .int .i64 at', .int .u64 sd']).ok w') (hr : (HEnt.row A c T' sz n ((row x).flatMap enc)).ok w') (hnew : ∀ b, A.map (·.block) = some b → w.heap.size ≤ b) : RetCR w T g cd at_ B T' sz enc row mk ok e w' := by
  subst hn
  exact ⟨x, A, c, at', sd', he, hok, h1, h2, hb, hg, hr, hnew⟩
theorem grown_of_bel {w w' : World} {g : Nat} (hb : Bel [g] w w') : w.grownBy w' (some g) := ⟨hb.os, hb.tape, hb.output, hb.size, fun k hk hne => hb.block k hk (fun hx => hne (by simp at hx; simp [hx]))⟩

section
variable {ty : TypeId} {pos : String} {aft : Array Edge} {gd : Option (Nat × Bool)} {d : Nat} {T T' : TypeId} {K : Env → List HEnt → Prop}
theorem One.callC {X : Type} {f : FuncId} {xs : List Operand} {vs : List Value} {ts : Array TypeId} {i g : Nat} {cd : Value} {at_ sd B : Int} {val : X → Value} {ok : X → Prop} {H' : Int → Int → List HEnt} (hd : Nat.blt d n = true) (hc : callable P f = true) (hargs : Evs L xs vs)
    (hi : H[i]? = some (.blk g T [cd, .int .i64 at_, .int .u64 sd])) (hcc : ∀ w, HOk w0 F H w → Calls P f vs.toArray w (RetC w T g cd at_ B val ok)) (hH : ∀ at' sd', H.set i (.blk g T [cd, .int .i64 at', .int .u64 sd']) = H' at' sd')
    (h : ∀ x at' sd', ok x → at_ ≤ at' → at' ≤ at_ + B → K ((d, val x) :: L) (H' at' sd')) :
    One P n w0 F ⟨some d, .call { callee := .value (.func f), args := xs.toArray, argTypes := ts }, ty, pos, aft, gd⟩ L H K :=
  One.call (by simpa [dstOk] using hd) hc hargs hcc fun w e w' hw ⟨x, at', sd', he, hok, h1, h2, hb, hblk⟩ => ⟨_, H' at' sd', he, by
    rw [← hH]
    exact hw.upd hi (grown_of_bel hb) hblk (fun _ h => .inl h), h x at' sd' hok h1 h2⟩

theorem HOk.pushB {w w' : World} {e : HEnt} (h : HOk w0 F H w') (h0 : w0.heap.size ≤ w.heap.size) (hok : e.ok w') (hbl : ∀ g, e.block = some g → w.heap.size ≤ g) (hH : ∀ f ∈ H, ∀ g, f.block = some g → g < w.heap.size) : HOk w0 F (e :: H) w' := by
  refine ⟨h.bel, fun f hf => ?_, fun f hf g hg => ?_, List.pairwise_cons.2 ⟨fun f hf g hg hg' => ?_, h.sep⟩⟩
  · rcases List.mem_cons.1 hf with rfl | hf
    · exact hok
    · exact h.ent f hf
  · rcases List.mem_cons.1 hf with rfl | hf
    · exact .inl (Nat.le_trans h0 (hbl g hg))
    · exact h.own f hf g hg
  · have h1 := hbl g hg
    have h2 := hH f hf g hg'
    omega
theorem One.callCR {X α : Type} {f : FuncId} {xs : List Operand} {vs : List Value} {ts : Array TypeId} {i g sz : Nat} {cd : Value} {at_ sd B : Int} {enc : α → List Value} {row : X → List α} {mk : X → Value → Value} {ok : X → Prop} {H' : Int → Int → List HEnt} (hd : Nat.blt d n = true) (hc : callable P f = true) (hargs : Evs L xs vs)
    (hi : H[i]? = some (.blk g T [cd, .int .i64 at_, .int .u64 sd])) (hcc : ∀ w, HOk w0 F H w → Calls P f vs.toArray w (RetCR w T g cd at_ B T' sz enc row mk ok)) (hH : ∀ at' sd', H.set i (.blk g T [cd, .int .i64 at', .int .u64 sd']) = H' at' sd')
    (h : ∀ x A c at' sd', ok x → at_ ≤ at' → at' ≤ at_ + B → K ((d, mk x (.slice A (row x).length c)) :: L) (.row A c T' sz (row x).length ((row x).flatMap enc) :: H' at' sd')) :
    One P n w0 F ⟨some d, .call { callee := .value (.func f), args := xs.toArray, argTypes := ts }, ty, pos, aft, gd⟩ L H K :=
  One.call (by simpa [dstOk] using hd) hc hargs hcc fun w e w' hw ⟨x, A, c, at', sd', he, hok, h1, h2, hb, hblk, hrow, hnew⟩ => ⟨_, .row A c T' sz (row x).length ((row x).flatMap enc) :: H' at' sd', he, by
    rw [← hH]
    refine HOk.pushB (hw.upd hi (grown_of_bel hb) hblk (fun _ h => .inl h)) hw.le hrow (fun g' hg' => hnew g' hg') (fun f hf b hbk => ?_)
    obtain ⟨j, hj, rfl⟩ := List.getElem_of_mem hf
    rw [List.getElem_set] at hbk
    split at hbk
    · exact (hw.ent _ (List.mem_of_getElem? hi)).lt b (by simpa [HEnt.block] using hbk)
    · exact (hw.ent _ (List.getElem_mem (by simpa using hj))).lt b hbk, h x A c at' sd' hok h1 h2⟩

theorem HOk.apart {w : World} {i j : Nat} {e f : HEnt} (hw : HOk w0 F H w) (hi : H[i]? = some e) (hj : H[j]? = some f) (hne : i ≠ j) {g : Nat} (he : e.block = some g) : f.block ≠ some g := by
  obtain ⟨hil, rfl⟩ := List.getElem?_eq_some_iff.1 hi
  obtain ⟨hjl, rfl⟩ := List.getElem?_eq_some_iff.1 hj
  have hs := List.pairwise_iff_getElem.1 hw.sep
  rcases Nat.lt_or_ge i j with h | h
  · exact hs i j hil hjl h g he
  · exact (hs j i hjl hil (by omega)).symm g he
/-- A row is apart from the cursor. -/
theorem HOk.rowNe {w : World} {i j g c m sz : Nat} {T T' : TypeId} {cs xs : List Value} {A : Option Addr} (hw : HOk w0 F H w) (hi : H[i]? = some (.blk g T cs)) (hj : H[j]? = some (.row A c T' sz m xs)) (hne : Nat.beq i j = false) (hm : 0 < m) : (adr A).block ≠ g := fun h => by
  have hok := hw.ent _ (List.mem_of_getElem? hj)
  obtain ⟨gg, cur, rfl, _⟩ := row_form hok hm
  have hij : i ≠ j := fun e => by subst e; simp at hne
  exact HOk.apart hw hi hj hij (g := g) rfl (by
    simp only [HEnt.block, Option.map_some, adr, Option.getD_some] at *
    rw [h])
/-- A row that a lent cursor's call has made is in new memory. -/
theorem HOk.newRow {w : World} {i j g c m sz : Nat} {T T' : TypeId} {cs xs : List Value} {A : Option Addr} (hw : HOk w0 [g] H w) (hi : H[i]? = some (.blk g T cs)) (hj : H[j]? = some (.row A c T' sz m xs)) (hne : Nat.beq i j = false) : ∀ b, A.map (·.block) = some b → w0.heap.size ≤ b := fun b hb => by
  have hij : i ≠ j := fun e => by subst e; simp at hne
  rcases hw.own _ (List.mem_of_getElem? hj) b hb with h | h
  · exact h
  · simp only [List.mem_singleton] at h
    subst h
    exact absurd hb (HOk.apart hw hi hj hij (g := b) rfl)
theorem HOk.lend {w : World} {T g : Nat} {A : Option Addr} {m c : Nat} {xs : List UInt8} {at_ sd : Int} (h : Cur w T g A m c xs at_ sd) : HOk w [g] [.blk g T [.slice A m c, .int .i64 at_, .int .u64 sd]] w :=
  HOk.borrow h.blk
end
end

/-- What a call hands back where a cursor was boxed within it: some value, a row in new memory. -/
def RetE {X : Type} (w : World) (val : X → Value) (ok : X → Prop) (e : Ending) (w' : World) : Prop := ∃ x, e = .returned (val x) ∧ ok x ∧ Below w.heap.size w w'
def RetER {X α : Type} (w : World) (T' sz : Nat) (enc : α → List Value) (row : X → List α) (mk : X → Value → Value) (ok : X → Prop) (e : Ending) (w' : World) : Prop :=
  ∃ (x : X) (A : Option Addr) (c : Nat), e = .returned (mk x (.slice A (row x).length c)) ∧ ok x ∧ Below w.heap.size w w' ∧ (HEnt.row A c T' sz (row x).length ((row x).flatMap enc)).ok w' ∧ ∀ b, A.map (·.block) = some b → w.heap.size ≤ b
theorem retER_of {X α : Type} {w w' : World} {n : Nat} {T' sz : Nat} {enc : α → List Value} {row : X → List α} {mk : X → Value → Value} {ok : X → Prop} {e : Ending} (x : X) {A : Option Addr} {c : Nat} (hn : (row x).length = n) (he : e = .returned (mk x (.slice A n c))) (hok : ok x) (hb : Below w.heap.size w w')
    (hr : (HEnt.row A c T' sz n ((row x).flatMap enc)).ok w') (hnew : ∀ b, A.map (·.block) = some b → w.heap.size ≤ b) : RetER w T' sz enc row mk ok e w' := by
  subst hn
  exact ⟨x, A, c, he, hok, hb, hr, hnew⟩
section
variable {P : Program} {n : Nat} {w0 : World} {F : List Nat} {H : List HEnt} {L : Env}
variable {ty : TypeId} {pos : String} {aft : Array Edge} {gd : Option (Nat × Bool)} {d : Nat} {T T' : TypeId} {K : Env → List HEnt → Prop}
theorem One.callE {X : Type} {f : FuncId} {xs : List Operand} {vs : List Value} {ts : Array TypeId} {val : X → Value} {ok : X → Prop} (hd : Nat.blt d n = true) (hc : callable P f = true) (hargs : Evs L xs vs)
    (hcc : ∀ w, HOk w0 F H w → Calls P f vs.toArray w (RetE w val ok)) (h : ∀ x, ok x → K ((d, val x) :: L) H) :
    One P n w0 F ⟨some d, .call { callee := .value (.func f), args := xs.toArray, argTypes := ts }, ty, pos, aft, gd⟩ L H K :=
  One.call (by simpa [dstOk] using hd) hc hargs hcc fun _ _ _ hw ⟨x, he, hok, hb⟩ => ⟨_, H, he, hw.up hb, h x hok⟩
theorem One.callER {X α : Type} {f : FuncId} {xs : List Operand} {vs : List Value} {ts : Array TypeId} {sz : Nat} {enc : α → List Value} {row : X → List α} {mk : X → Value → Value} {ok : X → Prop} (hd : Nat.blt d n = true) (hc : callable P f = true) (hargs : Evs L xs vs)
    (hcc : ∀ w, HOk w0 F H w → Calls P f vs.toArray w (RetER w T' sz enc row mk ok)) (h : ∀ x A c, ok x → K ((d, mk x (.slice A (row x).length c)) :: L) (.row A c T' sz (row x).length ((row x).flatMap enc) :: H)) :
    One P n w0 F ⟨some d, .call { callee := .value (.func f), args := xs.toArray, argTypes := ts }, ty, pos, aft, gd⟩ L H K :=
  One.call (by simpa [dstOk] using hd) hc hargs hcc fun _ _ _ hw ⟨x, A, c, he, hok, hb, hrow, hnew⟩ => ⟨_, _, he, hw.push hb hrow (fun g hg => hnew g hg), h x A c hok⟩
end
/-- A call hands back two rows in new memory. -/
def RetRow2 (w : World) (T sz n : Nat) (xs : List Value) (T2 sz2 n2 : Nat) (xs2 : List Value) (mk : Value → Value → Value) (e : Ending) (w' : World) : Prop :=
  ∃ A c A2 c2, e = .returned (mk (.slice A n c) (.slice A2 n2 c2)) ∧ Below w.heap.size w w' ∧ (HEnt.row A c T sz n xs).ok w' ∧ (HEnt.row A2 c2 T2 sz2 n2 xs2).ok w' ∧ (∀ g, A.map (·.block) = some g → w.heap.size ≤ g) ∧ (∀ g, A2.map (·.block) = some g → w.heap.size ≤ g) ∧ ∀ g, A.map (·.block) = some g → A2.map (·.block) ≠ some g
section
variable {P : Program} {n : Nat} {w0 : World} {F : List Nat} {H : List HEnt} {L : Env}
variable {ty : TypeId} {pos : String} {aft : Array Edge} {gd : Option (Nat × Bool)} {d : Nat} {T T' : TypeId} {K : Env → List HEnt → Prop}
theorem HOk.push2 {w w' : World} {e f : HEnt} (h : HOk w0 F H w) (hb : Below w.heap.size w w') (he : e.ok w') (hf : f.ok w') (hne : ∀ g, e.block = some g → w.heap.size ≤ g) (hnf : ∀ g, f.block = some g → w.heap.size ≤ g) (hap : ∀ g, e.block = some g → f.block ≠ some g) : HOk w0 F (e :: f :: H) w' := by
  have h1 := h.push hb hf hnf
  refine ⟨h1.bel, fun x hx => ?_, fun x hx g hg => ?_, List.pairwise_cons.2 ⟨fun x hx g hg hg' => ?_, h1.sep⟩⟩
  · rcases List.mem_cons.1 hx with rfl | hx
    · exact he
    · exact h1.ent x hx
  · rcases List.mem_cons.1 hx with rfl | hx
    · exact .inl (Nat.le_trans h.le (hne g hg))
    · exact h1.own x hx g hg
  · rcases List.mem_cons.1 hx with rfl | hx
    · exact hap g hg hg'
    · have := hne g hg
      have h3 := (h.ent x hx).lt g hg'
      omega
theorem One.callRow2 {f : FuncId} {xs : List Operand} {vs : List Value} {ts : Array TypeId} {sz m sz2 m2 T2 : Nat} {cells cells2 : List Value} {mk : Value → Value → Value} (hd : Nat.blt d n = true) (hc : callable P f = true) (hargs : Evs L xs vs)
    (hcc : ∀ w, HOk w0 F H w → Calls P f vs.toArray w (RetRow2 w T sz m cells T2 sz2 m2 cells2 mk))
    (h : ∀ A c A2 c2, K ((d, mk (.slice A m c) (.slice A2 m2 c2)) :: L) (.row A c T sz m cells :: .row A2 c2 T2 sz2 m2 cells2 :: H)) :
    One P n w0 F ⟨some d, .call { callee := .value (.func f), args := xs.toArray, argTypes := ts }, ty, pos, aft, gd⟩ L H K :=
  One.call (by simpa [dstOk] using hd) hc hargs hcc fun _ _ _ hw ⟨A, c, A2, c2, he, hb, h1, h2, h3, h4, h5⟩ => ⟨_, _, he, hw.push2 hb h1 h2 h3 h4 h5, h A c A2 c2⟩
/-- Two of the call's own rows, handed back. -/
theorem retRow2_own {w' : World} {A A2 : Option Addr} {c c2 i j sz m sz2 m2 T2 : Nat} {cells cells2 : List Value} {mk : Value → Value → Value} {e : Ending} (hw : HOk w0 [] H w') (hi : H[i]? = some (.row A c T sz m cells)) (hj : H[j]? = some (.row A2 c2 T2 sz2 m2 cells2)) (hne : Nat.beq i j = false) (he : e = .returned (mk (.slice A m c) (.slice A2 m2 c2))) :
    RetRow2 w0 T sz m cells T2 sz2 m2 cells2 mk e w' := by
  have hij : i ≠ j := fun e => by subst e; simp at hne
  exact ⟨A, c, A2, c2, he, hw.bel.below, hw.ent _ (List.mem_of_getElem? hi), hw.ent _ (List.mem_of_getElem? hj), fun g hg => (hw.own _ (List.mem_of_getElem? hi) g hg).elim id (by simp), fun g hg => (hw.own _ (List.mem_of_getElem? hj) g hg).elim id (by simp), fun g hg => HOk.apart hw hi hj hij hg⟩
/-- The same, of nothing: nil, or rows of length 0. -/
theorem retRow2_nil {w' : World} {sz sz2 T2 : Nat} {mk : Value → Value → Value} {e : Ending} (hw : HOk w0 [] H w') (he : e = .returned (mk (.slice none 0 0) (.slice none 0 0))) : RetRow2 w0 T sz 0 [] T2 sz2 0 [] mk e w' :=
  ⟨none, 0, none, 0, he, hw.bel.below, ⟨by simp, .inl ⟨rfl, rfl⟩⟩, ⟨by simp, .inl ⟨rfl, rfl⟩⟩, by simp, by simp, by simp⟩
theorem retRow2_nilOwn {w' : World} {A2 : Option Addr} {c2 j sz m2 sz2 T2 : Nat} {cells2 : List Value} {mk : Value → Value → Value} {e : Ending} (hw : HOk w0 [] H w') (hj : H[j]? = some (.row A2 c2 T2 sz2 m2 cells2)) (he : e = .returned (mk (.slice none 0 0) (.slice A2 m2 c2))) : RetRow2 w0 T sz 0 [] T2 sz2 m2 cells2 mk e w' :=
  ⟨none, 0, A2, c2, he, hw.bel.below, ⟨by simp, .inl ⟨rfl, rfl⟩⟩, hw.ent _ (List.mem_of_getElem? hj), by simp, fun g hg => (hw.own _ (List.mem_of_getElem? hj) g hg).elim id (by simp), by simp⟩
/-- Two rows, with values that nothing more is known of. -/
def RetER2 {X α β : Type} (w : World) (T sz : Nat) (enc : α → List Value) (row : X → List α) (T2 sz2 : Nat) (enc2 : β → List Value) (row2 : X → List β) (mk : X → Value → Value → Value) (ok : X → Prop) (e : Ending) (w' : World) : Prop :=
  ∃ x : X, ok x ∧ RetRow2 w T sz (row x).length ((row x).flatMap enc) T2 sz2 (row2 x).length ((row2 x).flatMap enc2) (mk x) e w'
theorem One.callER2 {X α β : Type} {f : FuncId} {xs : List Operand} {vs : List Value} {ts : Array TypeId} {sz sz2 T2 : Nat} {enc : α → List Value} {row : X → List α} {enc2 : β → List Value} {row2 : X → List β} {mk : X → Value → Value → Value} {ok : X → Prop} (hd : Nat.blt d n = true) (hc : callable P f = true) (hargs : Evs L xs vs)
    (hcc : ∀ w, HOk w0 F H w → Calls P f vs.toArray w (RetER2 w T sz enc row T2 sz2 enc2 row2 mk ok))
    (h : ∀ x A c A2 c2, ok x → K ((d, mk x (.slice A (row x).length c) (.slice A2 (row2 x).length c2)) :: L) (.row A c T sz (row x).length ((row x).flatMap enc) :: .row A2 c2 T2 sz2 (row2 x).length ((row2 x).flatMap enc2) :: H)) :
    One P n w0 F ⟨some d, .call { callee := .value (.func f), args := xs.toArray, argTypes := ts }, ty, pos, aft, gd⟩ L H K :=
  One.call (by simpa [dstOk] using hd) hc hargs hcc fun _ _ _ hw ⟨x, hok, A, c, A2, c2, he, hb, h1, h2, h3, h4, h5⟩ => ⟨_, _, he, hw.push2 hb h1 h2 h3 h4 h5, h x A c A2 c2 hok⟩
end
end Go.Proofs.YtlpgcbkialcjcaaGreatDoor
