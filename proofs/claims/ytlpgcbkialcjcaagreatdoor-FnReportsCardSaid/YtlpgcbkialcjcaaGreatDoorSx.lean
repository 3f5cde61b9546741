/- More rules of the calculus: prefixes of own rows, writes in place, equality of structs, captured variables. Conditions: none; proved of any program. -/
import Derived.Test.YtlpgcbkialcjcaaGreatDoorSy
import Derived.Laws.StructEq
namespace Go.Proofs.YtlpgcbkialcjcaaGreatDoor
open Go.RowKit

section
variable {P : Program} {n : Nat} {w0 : World} {F : List Nat} {H : List HEnt} {L : Env}

/-- A variable's block, read as a row of one. -/
theorem Rd.blkE {α : Type} {enc : α → List Value} {sz : Nat} (henc : ∀ x, (enc x).length = sz) {i b : Nat} {T : TypeId} {x : α} (hi : H[i]? = some (.blk b T (enc x))) : Rd w0 F H sz (some ⟨b, 0, none⟩) 1 1 ([x].flatMap enc) := fun w hw => by
  have h : w.heap[b]? = some (.cells (enc x).toArray T (0, 0)) := hw.ent _ (List.mem_of_getElem? hi)
  refine ⟨by simp [henc], Nat.le_refl _, by simp [maxLen], fun _ => ⟨rfl, ?_, ?_⟩⟩
  · exact (Array.getElem?_eq_some_iff.1 h).1
  · intro j u hu
    simp only [List.flatMap_cons, List.flatMap_nil, List.append_nil] at hu
    show w.cell? ((⟨b, 0, none⟩ : Addr).add j) = some u
    rw [add_row, cell_of_row w b j _ _ _ h]
    simpa using hu

theorem cutA_zero {A : Option Addr} {c sz : Nat} : cutA A c 0 sz = A := by
  unfold cutA
  split
  · rfl
  · cases A <;> simp [Addr.add]
/-- The address of what is cut from a place on, where there is anything behind it. -/
theorem cutA_at {A : Option Addr} {c o sz : Nat} (h : o < c) : cutA A c o sz = A.map (·.add (o * sz)) := by
  unfold cutA
  rw [if_neg (by omega)]
theorem Sl.cut0 {w : World} {sz : Nat} {A : Option Addr} {m c h : Nat} {xs : List Value} (hs : Sl w sz A m c xs) (hh : h ≤ m) : Sl w sz A h c (xs.take (h * sz)) := by
  have := hs.cut (l := 0) (h := h) (Nat.zero_le _) hh
  rw [cutA_zero] at this
  simpa using this
theorem Rd.cut0 {α : Type} {enc : α → List Value} {sz : Nat} {A : Option Addr} {m c h : Nat} {xs : List α} (henc : ∀ x, (enc x).length = sz) (hs : Rd w0 F H sz A m c (xs.flatMap enc)) (hh : h ≤ m) : Rd w0 F H sz A h c ((xs.take h).flatMap enc) := fun w hw => by
  have := (hs w hw).cut0 hh
  rwa [flat_take henc] at this
theorem Rd.cutF {α : Type} {enc : α → List Value} {sz : Nat} {A : Option Addr} {m c l : Nat} {xs : List α} (henc : ∀ x, (enc x).length = sz) (hs : Rd w0 F H sz A m c (xs.flatMap enc)) (hx : xs.length = m) (hl : l ≤ m) :
    Rd w0 F H sz (cutA A c l sz) (m - l) (c - l) ((xs.drop l).flatMap enc) := fun w hw => by
  have := hs.cutT henc hl (Nat.le_refl m) w hw
  rwa [List.take_of_length_le (by simp; omega)] at this
theorem Rd.cutB {α : Type} {enc : α → List Value} {sz : Nat} {A : Option Addr} {m c l h : Nat} {xs : List α} (henc : ∀ x, (enc x).length = sz) (hs : Rd w0 F H sz A m c (xs.flatMap enc)) (hl : l ≤ h) (hh : h ≤ m) :
    Rd w0 F H sz (cutA A c l sz) (h - l) (c - l) (((xs.drop l).take (h - l)).flatMap enc) := hs.cutT henc hl hh

section
variable {ty : TypeId} {pos : String} {aft : Array Edge} {g : Option (Nat × Bool)} {d : Option Nat} {T T' : TypeId} {x y : Operand}
/-- 's[:hi]', at the same address. -/
theorem Yv.cutTo0 {hi : Operand} {A : Option Addr} {m c sz by_ : Nat} {e : TypeId} {ix : Int} (k : Nat) (hT : elT P T = some (e, sz, by_)) (hx : ev L x = some (.slice A m c)) (hh : ev L hi = some (.int .i64 ix)) (hk : ix = (k : Int)) (hkm : k ≤ c) :
    Yv P n w0 F H L ⟨d, .slice T x none (some hi) none, ty, pos, aft, g⟩ (.slice A k c) := by
  have := Yv.cutTo (P := P) (n := n) (w0 := w0) (F := F) (H := H) (ty := ty) (pos := pos) (aft := aft) (g := g) (d := d) k hT hx hh hk hkm
  rwa [cutA_zero] at this
/-- 's[lo:hi:max]' -/
theorem Yv.cut3 {lo hi mx : Operand} {A : Option Addr} {m c sz by_ : Nat} {e : TypeId} {ix jx qx : Int} (k j q : Nat) (hT : elT P T = some (e, sz, by_)) (hx : ev L x = some (.slice A m c)) (hl : ev L lo = some (.int .i64 ix)) (hh : ev L hi = some (.int .i64 jx)) (hm : ev L mx = some (.int .i64 qx))
    (hk : ix = (k : Int)) (hj : jx = (j : Int)) (hq : qx = (q : Int)) (hkj : k ≤ j) (hjq : j ≤ q) (hqc : q ≤ c) :
    Yv P n w0 F H L ⟨d, .slice T x (some lo) (some hi) (some mx), ty, pos, aft, g⟩ (.slice (cutA A q k sz) (j - k) (q - k)) := fun a w ha hw => by
  subst hk; subst hj; subst hq
  unfold elT at hT
  split at hT
  · rename_i e' he
    cases hi : P.info? e' with
    | none => simp [hi] at hT
    | some i =>
      simp only [hi, Option.map_some, Option.some.injEq, Prod.mk.injEq] at hT
      obtain ⟨rfl, rfl, rfl⟩ := hT
      simp [execOp, ha.ev hx, ha.ev hl, ha.ev hh, ha.ev hm, Instr.sliceAt, Instr.slice, run_underlying he, Instr.sliceBounds, Instr.sliceBound, asIntOf, hqc, hjq, hkj, sizeOf, typeInfo, hi, cutA]
  · cases hT
theorem Yv.capS {A : Option Addr} {m c : Nat} (hT : (elT P T).isSome = true) (hx : ev L x = some (.slice A m c)) :
    Yv P n w0 F H L ⟨d, .call { callee := .builtin .cap, args := #[x], argTypes := #[T] }, ty, pos, aft, g⟩ (.int .i64 (c : Int)) := fun a w ha hw => by
  obtain ⟨e, he⟩ : ∃ e, P.underlying T = some (.slice e) := by
    unfold elT at hT
    split at hT
    · rename_i e he; exact ⟨e, he⟩
    · simp at hT
  simp [execOp, resolve, invoke, builtin, ha.ev hx, Builtin.cap_, run_underlying he, goInt]

/-! Equality of structs of numbers and truth values -/
def scalK (P : Program) : List Field → Nat → Option (List (Option IntKind))
  | [], _ => some []
  | f :: fs, o =>
    if f.name != "_" && f.offset == o && layT P f.type == some (false, 1) then
      match P.underlying f.type, scalK P fs (o + 1) with
      | some (.int k), some r => some (some k :: r)
      | some .bool, some r => some (none :: r)
      | _, _ => none
    else none
def scalT (P : Program) (T : TypeId) : Option (List (Option IntKind)) :=
  match P.underlying T with
  | some (.struct fs) => if P.stoodInHeld T || P.eqGuardType P.depth T then none else scalK P fs.toList 0
  | _ => none
def fitsK : List (Option IntKind) → List Value → Bool
  | [], [] => true
  | some k :: ks, .int k' _ :: r => decide (k = k') && fitsK ks r
  | none :: ks, .bool _ :: r => fitsK ks r
  | _, _ => false
def eqC : List Value → List Value → Bool
  | .int _ a :: r, .int _ b :: s => decide (a = b) && eqC r s
  | .bool a :: r, .bool b :: s => (a == b) && eqC r s
  | _, _ => true
theorem run_part_scalar {w : World} {t : TypeId} {cs : Array Value} {o : Nat} {v : Value} (hT : layT P t = some (false, 1)) (hv : cs[o]? = some v) : (part t cs o).run P w = .ok v w := by
  simp [part, run_isAgg hT, hv]
theorem run_eqK {d : Nat} {xs ys : Array Value} {w : World} : ∀ {fs : List Field} {o : Nat} {ks : List (Option IntKind)}, scalK P fs o = some ks → fitsK ks (xs.toList.drop o) = true → fitsK ks (ys.toList.drop o) = true →
    (Op.eqFields (d + 1) xs ys fs).run P w = .ok (eqC (xs.toList.drop o) (ys.toList.drop o)) w
  | [], o, ks, h, h1, h2 => by
    simp only [scalK, Option.some.injEq] at h
    subst h
    cases hx : xs.toList.drop o with
    | nil => simp [Op.eqFields, eqC]
    | cons a r => rw [hx] at h1; simp [fitsK] at h1
  | f :: fs, o, ks, h, h1, h2 => by
    rw [scalK] at h
    split at h
    · rename_i hc
      simp only [Bool.and_eq_true, bne_iff_ne, ne_eq, beq_iff_eq] at hc
      obtain ⟨⟨hn, ho⟩, hl⟩ := hc
      cases hr : scalK P fs (o + 1) with
      | none => rw [hr] at h; split at h <;> simp_all
      | some r =>
        rw [hr] at h
        cases hx : xs.toList.drop o with
        | nil => rw [hx] at h1; split at h <;> (simp at h; try (subst h; simp [fitsK] at h1))
        | cons a xr =>
          cases hy : ys.toList.drop o with
          | nil => rw [hy] at h2; split at h <;> (simp at h; try (subst h; simp [fitsK] at h2))
          | cons b yr =>
            have hx1 : xs.toList.drop (o + 1) = xr := by rw [← List.drop_drop, hx]; rfl
            have hy1 : ys.toList.drop (o + 1) = yr := by rw [← List.drop_drop, hy]; rfl
            have hxo : xs[o]? = some a := by
              have : (xs.toList.drop o)[0]? = some a := by rw [hx]; rfl
              simpa using this
            have hyo : ys[o]? = some b := by
              have : (ys.toList.drop o)[0]? = some b := by rw [hy]; rfl
              simpa using this
            have ih := run_eqK (d := d) (xs := xs) (ys := ys) (w := w) (fs := fs) (o := o + 1) hr
            rw [hx1, hy1] at ih
            rw [hx] at h1
            rw [hy] at h2
            subst ho
            simp only [Op.eqFields, hn, ne_eq, not_false_eq_true, if_true, Sem.run_bind, Sem.run_ite, run_part_scalar hl hxo, run_part_scalar hl hyo, Result.andThen_ok]
            split at h
            · rename_i k _ hu _
              simp only [Option.some.injEq] at h
              rename_i hh
              simp only [Option.some.injEq] at hh
              subst hh
              subst h
              cases a <;> simp only [fitsK, Bool.and_eq_true, decide_eq_true_eq, Bool.false_eq_true] at h1
              cases b <;> simp only [fitsK, Bool.and_eq_true, decide_eq_true_eq, Bool.false_eq_true] at h2
              rename_i ka va kb vb
              obtain ⟨e1, h1⟩ := h1
              obtain ⟨e2, h2⟩ := h2
              subst e1
              subst e2
              rw [run_equalIn_int w d f.type k k va vb hu]
              simp only [Result.andThen_ok]
              rw [ih h1 h2]
              by_cases hab : va = vb
              · simp [hab, eqC]
              · simp [hab, eqC]
            · rename_i hu _
              rename_i hh
              simp only [Option.some.injEq] at hh h
              subst hh
              subst h
              cases a <;> simp only [fitsK, Bool.false_eq_true] at h1
              cases b <;> simp only [fitsK, Bool.false_eq_true] at h2
              rename_i va vb
              rw [run_equalIn_bool w d f.type va vb hu]
              simp only [Result.andThen_ok]
              rw [ih h1 h2]
              cases va <;> cases vb <;> simp [eqC]
            · cases h
    · cases h
theorem run_eqS {w : World} {xs ys : List Value} {ks : List (Option IntKind)} (hT : scalT P T = some ks) (h1 : fitsK ks xs = true) (h2 : fitsK ks ys = true) : (Op.equalIn 10000 T (.agg xs.toArray) (.agg ys.toArray)).run P w = .ok (eqC xs ys) w := by
  unfold scalT at hT
  split at hT
  · rename_i fs hu
    split at hT
    · cases hT
    · rename_i hn
      simp only [Bool.or_eq_true, not_or, Bool.not_eq_true] at hn
      have hf : P.fieldsOf T = fs := by simp [Program.fieldsOf, hu]
      rw [run_equalIn_struct w 9999 T xs.toArray ys.toArray (by rw [hf]; exact hu) hn.1, hf]
      exact run_eqK (d := 9998) (o := 0) hT (by simpa using h1) (by simpa using h2)
  · cases hT
theorem eqS_guard {ks : List (Option IntKind)} (hT : scalT P T = some ks) : P.eqGuardType P.depth T = false := by
  unfold scalT at hT
  split at hT
  · split at hT
    · cases hT
    · rename_i hn
      simp only [Bool.or_eq_true, not_or, Bool.not_eq_true] at hn
      exact hn.2
  · cases hT
theorem Yv.neS {xs ys : List Value} {ks : List (Option IntKind)} (hT : scalT P T = some ks) (hx : ev L x = some (.agg xs.toArray)) (hy : ev L y = some (.agg ys.toArray)) (h1 : fitsK ks xs = true) (h2 : fitsK ks ys = true) :
    Yv P n w0 F H L ⟨d, .binOp .neq T x y T', ty, pos, aft, g⟩ (.bool (!eqC xs ys)) := fun a w ha hw => by
  simp only [execOp, ha.ev hx, ha.ev hy, Sem.run_bind, run_eqGuard_agg w _ _ _ _ _ _ (eqS_guard hT), Result.andThen_ok, run_neq_struct, run_eqS hT h1 h2, Sem.run_pure]
theorem Yv.eqS {xs ys : List Value} {ks : List (Option IntKind)} (hT : scalT P T = some ks) (hx : ev L x = some (.agg xs.toArray)) (hy : ev L y = some (.agg ys.toArray)) (h1 : fitsK ks xs = true) (h2 : fitsK ks ys = true) :
    Yv P n w0 F H L ⟨d, .binOp .eql T x y T', ty, pos, aft, g⟩ (.bool (eqC xs ys)) := fun a w ha hw => by
  simp only [execOp, ha.ev hx, ha.ev hy, Sem.run_bind, run_eqGuard_agg w _ _ _ _ _ _ (eqS_guard hT), Result.andThen_ok, run_eql_struct, run_eqS hT h1 h2, Sem.run_pure]
end

/-! Writes in place -/
theorem write_flat {cur vs : List Value} {M o : Nat} (ho : o + vs.length ≤ M) (hM : M ≤ cur.length) :
    (cur.take o ++ vs ++ cur.drop (o + vs.length)).take M = (cur.take M).take o ++ vs ++ (cur.take M).drop (o + vs.length) := by
  have h1 : (cur.take o ++ vs).length = o + vs.length := by simp; omega
  rw [List.take_append, h1, List.take_of_length_le (by omega), List.take_take, Nat.min_eq_left (by omega), List.drop_take]
/-- A write into an own row, at a place of it. -/
theorem row_write {w : World} {A : Option Addr} {c sz m o : Nat} {T : TypeId} {xs vs : List Value} {gg : Nat} {cur : Array Value} (hh : w.heap[gg]? = some (.cells cur T (0, 0))) (h1 : m ≤ c) (h2 : c ≤ maxLen) (h3 : cur.size = c * sz) (h4 : cur.toList.take (m * sz) = xs)
    (ho : o + vs.length ≤ m * sz) (hA : A = some ⟨gg, 0, none⟩) :
    (HEnt.row A c T sz m (xs.take o ++ vs ++ xs.drop (o + vs.length))).ok (w.setRow gg (cur.toList.take o ++ vs ++ cur.toList.drop (o + vs.length)).toArray) := by
  subst hA
  have hle : m * sz ≤ c * sz := Nat.mul_le_mul_right _ h1
  have hcl : cur.toList.length = c * sz := by simpa using h3
  have hxl : xs.length = m * sz := by rw [← h4, List.length_take]; omega
  refine ⟨by simp only [List.length_append, List.length_take, List.length_drop, hxl]; omega, .inr ⟨gg, c, _, rfl, Nat.zero_le _, setRow_heap w gg cur _ T _ hh, h1, h2, ?_, ?_⟩⟩
  · simp only [List.size_toArray, List.length_append, List.length_take, List.length_drop, hcl]; omega
  · rw [write_flat ho (by omega), h4]
/-- Less of a row. -/
theorem row_less {w : World} {A : Option Addr} {c sz m m' : Nat} {T : TypeId} {xs : List Value} (h : (HEnt.row A c T sz m xs).ok w) (hm : m' ≤ m) : (HEnt.row A c T sz m' (xs.take (m' * sz))).ok w := by
  have h' : w.ownsRow 0 T sz (.slice A m c) m xs := h
  have hle : m' * sz ≤ m * sz := Nat.mul_le_mul_right _ hm
  refine ⟨by rw [List.length_take, h'.1]; omega, ?_⟩
  rcases h'.2 with ⟨hv, h0⟩ | ⟨gg, cap, cur, hv, hb, hh, h1, h2, h3, h4⟩
  · simp only [Value.slice.injEq] at hv
    obtain ⟨rfl, _, rfl⟩ := hv
    have : m' = 0 := by omega
    subst this
    exact .inl ⟨rfl, rfl⟩
  · simp only [Value.slice.injEq] at hv
    obtain ⟨rfl, _, rfl⟩ := hv
    exact .inr ⟨gg, c, cur, rfl, hb, hh, by omega, h2, h3, by rw [← h4, List.take_take, Nat.min_eq_left hle]⟩
theorem row_less' {α : Type} {enc : α → List Value} {w : World} {A : Option Addr} {c sz m m' : Nat} {T : TypeId} {l : List α} (henc : ∀ x, (enc x).length = sz) (h : (HEnt.row A c T sz m (l.flatMap enc)).ok w) (hm : m' ≤ m) : (HEnt.row A c T sz m' ((l.take m').flatMap enc)).ok w := by
  have := row_less h hm
  rwa [flat_take henc] at this

section
variable {ty : TypeId} {pos : String} {aft : Array Edge} {g : Option (Nat × Bool)} {d : Nat} {T T' : TypeId} {x y : Operand} {K : Env → List HEnt → Prop}
theorem flat3 {α : Type} {enc : α → List Value} {sz : Nat} (henc : ∀ x, (enc x).length = sz) {l l2 : List α} {o k : Nat} (hk : l2.length = k) :
    (l.flatMap enc).take (o * sz) ++ l2.flatMap enc ++ (l.flatMap enc).drop (o * sz + (l2.flatMap enc).length) = (l.take o ++ l2 ++ l.drop (o + k)).flatMap enc := by
  rw [flat_len henc, hk, ← Nat.add_mul, flat_take henc, flat_drop henc]
  simp

/-- 'append(s[:i], x..)' within s, s a row of the call's own. -/
theorem One.appendIn {α : Type} {enc : α → List Value} {l l2 : List α} {A A2 : Option Addr} {c c2 sz by_ m o k i m' : Nat} {e : TypeId} {H' : List HEnt} (hd : Nat.blt d n = true)
    (hT : elT P T = some (e, sz, by_)) (henc : ∀ x, (enc x).length = sz) (hx : ev L x = some (.slice A o c)) (hy : ev L y = some (.slice A2 k c2))
    (hi : H[i]? = some (.row A c e sz m (l.flatMap enc))) (hr : Rd w0 F H sz A2 k c2 (l2.flatMap enc)) (hk : l2.length = k) (h1 : ∀ x, (enc x).all Value.oneCell' = true) (hm' : m' = o + k) (hroom : m' ≤ m)
    (hH : H.set i (.row A c e sz m ((l.take o ++ l2 ++ l.drop m').flatMap enc)) = H')
    (h : K ((d, .slice A m' c) :: L) H') :
    One P n w0 F ⟨some d, .call { callee := .builtin .append, args := #[x, y], argTypes := #[T, T] }, ty, pos, aft, g⟩ L H K := by
  subst hm'; subst hH
  refine One.mem (by simpa [dstOk] using hd) fun a w ha hw => ?_
  have hall : ∀ u ∈ l2.flatMap enc, u.oneCell' = true := by
    intro u hu
    obtain ⟨z, _, hz2⟩ := List.mem_flatMap.1 hu
    exact List.all_eq_true.1 (h1 z) u hz2
  obtain ⟨inf, hu, hinf, hs1, hs2⟩ := elT_info hT
  have hb := hw.ent _ (List.mem_of_getElem? hi)
  have hmc := (sl_of_row hb).cap
  rcases Nat.eq_zero_or_pos k with h0 | h0
  · subst h0
    have hn : l2 = [] := List.eq_nil_of_length_eq_zero hk
    subst hn
    refine ⟨.slice A (o + 0) c, w, _, ?_, ?_, h⟩
    · have hoc : o + 0 ≤ c := by omega
      have hrun : (Builtin.append_ #[T, T] ty #[.slice A o c, .slice A2 0 c2]).run P w = .ok (.slice A (o + 0) c) w := by
        cases A <;> cases A2 <;> simp [Builtin.append_, run_underlying hu, sizeOf, typeInfo, hinf, Builtin.lenOf, Builtin.firstCells, loadCells, loadCellsFrom, storeCells, show o ≤ c by omega]
      simp only [execOp, resolve, invoke, builtin, Sem.run_bind, Sem.run_pure, Result.andThen_ok, List.map_toArray, List.map_cons, List.map_nil, ha.ev hx, ha.ev hy, hrun]
    · have hset : H.set i (.row A c e sz m ((l.take o ++ [] ++ l.drop (o + 0)).flatMap enc)) = H := by
        simp only [Nat.add_zero, List.append_nil, List.take_append_drop]
        apply List.ext_getElem?
        intro j
        rw [List.getElem?_set]
        split
        · rename_i hij
          subst hij
          rw [if_pos (List.getElem?_eq_some_iff.1 hi).1, hi]
        · rfl
      rw [hset]
      exact hw
  · obtain ⟨gg, cur, rfl, hh, g1, g2, g3, g4⟩ := row_form hb (by omega)
    have hsl := hr w hw
    obtain ⟨hA2, hlt, hcells⟩ := hsl.at_ h0
    cases A2 with
    | none => simp at hA2
    | some ad =>
      have hnl : (l2.flatMap enc).length = k * sz := by rw [flat_len henc, hk]
      have hle : (o + k) * sz ≤ m * sz := Nat.mul_le_mul_right _ hroom
      have hle2 : m * sz ≤ c * sz := Nat.mul_le_mul_right _ g1
      have hrun := run_append_room (P := P) w T ty e inf hu hinf gg o c cur hh ad k c2 (l2.flatMap enc) (by rw [hnl, hs1]) hcells hall (by omega) (by rw [hnl, hs1, g3, ← Nat.add_mul]; omega)
      rw [hs1] at hrun
      refine ⟨.slice (some ⟨gg, 0, none⟩) (o + k) c, w.setRow gg (cur.toList.take (o * sz) ++ l2.flatMap enc ++ cur.toList.drop (o * sz + (l2.flatMap enc).length)).toArray, _, ?_, hw.upd hi (grownBy_setRow w gg _) (e' := .row (some ⟨gg, 0, none⟩) c e sz m ((l.take o ++ l2 ++ l.drop (o + k)).flatMap enc)) ?_ (fun g hg => .inl hg), h⟩
      · simp only [execOp, resolve, invoke, builtin, Sem.run_bind, Sem.run_pure, Result.andThen_ok, List.map_toArray, List.map_cons, List.map_nil, ha.ev hx, ha.ev hy, hrun]
      · have := row_write (o := o * sz) (vs := l2.flatMap enc) hh g1 g2 g3 g4 (by rw [hnl, ← Nat.add_mul]; exact hle) rfl
        rwa [flat3 henc hk] at this

theorem run_storeCells_row {w : World} {gg o : Nat} {e : TypeId} {vs : List Value} {cur : Array Value} (hh : w.heap[gg]? = some (.cells cur e (0, 0))) (hf : o + vs.length ≤ cur.size) (h1 : ∀ u ∈ vs, u.oneCell' = true) :
    (storeCells ⟨gg, o, none⟩ vs).run P w = .ok () (w.setRow gg (cur.toList.take o ++ vs ++ cur.toList.drop (o + vs.length)).toArray) := by
  have := run_storeCells_at P gg o e vs 0 cur w hh (by simpa using hf) h1
  simpa using this

/-- 'clear(s[o:o+k])' of a row of the call's own. -/
theorem One.clear {α : Type} {enc : α → List Value} {z : α} {l : List α} {A A2 : Option Addr} {c c2 sz by_ m o k i : Nat} {e : TypeId} {zs : List Value} {H' : List HEnt}
    (hT : elT P T = some (e, sz, by_)) (hz : zeroT P e = some zs) (hze : zs = enc z) (henc : ∀ x, (enc x).length = sz) (h1 : (enc z).all Value.oneCell' = true) (hx : ev L x = some (.slice A2 k c2)) (hA : 0 < k → A2 = A.map (·.add (o * sz)))
    (hi : H[i]? = some (.row A c e sz m (l.flatMap enc))) (hok : o + k ≤ m)
    (hH : H.set i (.row A c e sz m ((l.take o ++ List.replicate k z ++ l.drop (o + k)).flatMap enc)) = H')
    (h : K L H') :
    One P n w0 F ⟨none, .call { callee := .builtin .clear, args := #[x], argTypes := #[T] }, ty, pos, aft, g⟩ L H K := by
  subst hH
  obtain ⟨inf, hu, hinf, hs1, hs2⟩ := elT_info hT
  obtain ⟨inf', zv, hinf', hz', hzc⟩ := zero_cells hz
  refine One.mem rfl fun a w ha hw => ?_
  have hb := hw.ent _ (List.mem_of_getElem? hi)
  rcases Nat.eq_zero_or_pos k with h0 | h0
  · subst h0
    refine ⟨.tuple #[], w, _, ?_, ?_, h⟩
    · have hrun : (Builtin.clear_ #[T] ty #[.slice A2 0 c2]).run P w = .ok (.tuple #[]) w := by
        cases A2 <;> simp [Builtin.clear_, run_underlying hu]
      simp only [execOp, resolve, invoke, builtin, Sem.run_bind, Sem.run_pure, Result.andThen_ok, List.map_toArray, List.map_cons, List.map_nil, ha.ev hx, hrun]
    · have hset : H.set i (.row A c e sz m ((l.take o ++ List.replicate 0 z ++ l.drop (o + 0)).flatMap enc)) = H := by
        simp only [Nat.add_zero, List.replicate_zero, List.append_nil, List.take_append_drop]
        apply List.ext_getElem?
        intro j
        rw [List.getElem?_set]
        split
        · rename_i hij
          subst hij
          rw [if_pos (List.getElem?_eq_some_iff.1 hi).1, hi]
        · rfl
      rw [hset]
      exact hw
  · obtain ⟨gg, cur, rfl, hh, g1, g2, g3, g4⟩ := row_form hb (by omega)
    obtain rfl := hA h0
    have hzl : (Builtin.zeroCells zv.cells k).toList = (List.replicate k z).flatMap enc := by
      rw [hzc, hze]
      rcases Nat.eq_zero_or_pos sz with hs | hs
      · have e0 : enc z = [] := List.eq_nil_of_length_eq_zero (by rw [henc, hs])
        simp [Builtin.zeroCells, e0]
      · have := madeCells_flat henc hs z k
        rw [← this]
        simp [Builtin.zeroCells, madeCells, henc]
    have hnl : ((List.replicate k z).flatMap enc).length = k * sz := by rw [flat_len henc]; simp
    have hle : (o + k) * sz ≤ m * sz := Nat.mul_le_mul_right _ hok
    have hle2 : m * sz ≤ c * sz := Nat.mul_le_mul_right _ g1
    have hst := run_storeCells_row (P := P) (o := o * sz) (vs := (List.replicate k z).flatMap enc) hh (by rw [hnl, g3, ← Nat.add_mul]; omega) (by
      intro u hu
      obtain ⟨q, hq, hz2⟩ := List.mem_flatMap.1 hu
      rw [List.mem_replicate] at hq
      rw [hq.2] at hz2
      exact List.all_eq_true.1 h1 u hz2)
    refine ⟨.tuple #[], w.setRow gg (cur.toList.take (o * sz) ++ (List.replicate k z).flatMap enc ++ cur.toList.drop (o * sz + ((List.replicate k z).flatMap enc).length)).toArray, _, ?_, hw.upd hi (grownBy_setRow w gg _) (e' := .row (some ⟨gg, 0, none⟩) c e sz m ((l.take o ++ List.replicate k z ++ l.drop (o + k)).flatMap enc)) ?_ (fun g hg => .inl hg), h⟩
    · have hrun : (Builtin.clear_ #[T] ty #[.slice (some (Addr.add ⟨gg, 0, none⟩ (o * sz))) k c2]).run P w = .ok (.tuple #[]) (w.setRow gg (cur.toList.take (o * sz) ++ (List.replicate k z).flatMap enc ++ cur.toList.drop (o * sz + ((List.replicate k z).flatMap enc).length)).toArray) := by
        obtain ⟨k', rfl⟩ : ∃ k', k = k' + 1 := ⟨k - 1, by omega⟩
        rw [add_row]
        simp only [Builtin.clear_, Sem.run_bind, run_underlying hu, Result.andThen_ok, zeroValue, typeInfo, run_program, hinf', hz', Sem.run_pure, hzl, hst, List.getElem?_toArray, List.getElem?_cons_zero]
      simp only [execOp, resolve, invoke, builtin, Sem.run_bind, Sem.run_pure, Result.andThen_ok, List.map_toArray, List.map_cons, List.map_nil, ha.ev hx, Option.map_some, hrun]
    · have := row_write (o := o * sz) (vs := (List.replicate k z).flatMap enc) hh g1 g2 g3 g4 (by rw [hnl, ← Nat.add_mul]; exact hle) rfl
      rwa [flat3 henc (k := k) (by simp)] at this

/-- 'copy(s[o:..], x)' into a row of the call's own. -/
theorem One.copy {α : Type} {dd : Option Nat} {enc : α → List Value} {l l2 : List α} {A A2 A3 : Option Addr} {c c2 c3 sz by_ m o k k3 i q : Nat} {e : TypeId} {H' : List HEnt} (hd : dstOk n dd = true)
    (hT : elT P T = some (e, sz, by_)) (henc : ∀ x, (enc x).length = sz) (h1 : ∀ x, (enc x).all Value.oneCell' = true) (hx : ev L x = some (.slice A2 k c2)) (hy : ev L y = some (.slice A3 k3 c3)) (hA : 0 < k → A2 = A.map (·.add (o * sz)))
    (hi : H[i]? = some (.row A c e sz m (l.flatMap enc))) (hok : o + k ≤ m) (hr : Rd w0 F H sz A3 k3 c3 (l2.flatMap enc)) (hl2 : l2.length = k3) (hq : q = min k3 k)
    (hH : H.set i (.row A c e sz m ((l.take o ++ l2.take q ++ l.drop (o + q)).flatMap enc)) = H')
    (h : K (pushE dd (.int .i64 (q : Int)) L) H') :
    One P n w0 F ⟨dd, .call { callee := .builtin .copy, args := #[x, y], argTypes := #[T, T] }, ty, pos, aft, g⟩ L H K := by
  subst hH; subst hq
  obtain ⟨inf, hu, hinf, hs1, hs2⟩ := elT_info hT
  refine One.mem hd fun a w ha hw => ?_
  have hb := hw.ent _ (List.mem_of_getElem? hi)
  have hsl := hr w hw
  have hmin : Nat.min k3 k = min k3 k := rfl
  rcases Nat.eq_zero_or_pos (min k3 k) with h0 | h0
  · refine ⟨.int .i64 ((min k3 k : Nat) : Int), w, _, ?_, ?_, h⟩
    · have hrun : (Builtin.copy_ #[T, T] ty #[.slice A2 k c2, .slice A3 k3 c3]).run P w = .ok (.int .i64 ((min k3 k : Nat) : Int)) w := by
        cases A2 <;> cases A3 <;> simp [Builtin.copy_, run_underlying hu, sizeOf, typeInfo, hinf, Builtin.lenOf, Builtin.firstCells, loadCells, loadCellsFrom, storeCells, hmin, h0, goInt]
      simp only [execOp, resolve, invoke, builtin, Sem.run_bind, Sem.run_pure, Result.andThen_ok, List.map_toArray, List.map_cons, List.map_nil, ha.ev hx, ha.ev hy, hrun]
    · have hset : H.set i (.row A c e sz m ((l.take o ++ l2.take (min k3 k) ++ l.drop (o + min k3 k)).flatMap enc)) = H := by
        simp only [h0, Nat.add_zero, List.take_zero, List.append_nil, List.take_append_drop]
        apply List.ext_getElem?
        intro j
        rw [List.getElem?_set]
        split
        · rename_i hij
          subst hij
          rw [if_pos (List.getElem?_eq_some_iff.1 hi).1, hi]
        · rfl
      rw [hset]
      exact hw
  · have hk : 0 < k := by omega
    have hk3 : 0 < k3 := by omega
    obtain ⟨gg, cur, rfl, hh, g1, g2, g3, g4⟩ := row_form hb (by omega)
    obtain rfl := hA hk
    have hsl2 := hsl.cut0 (h := min k3 k) (by omega)
    rw [flat_take henc] at hsl2
    obtain ⟨hA3, hlt, hcells⟩ := hsl2.at_ h0
    cases A3 with
    | none => simp at hA3
    | some ad =>
      have hnl : ((l2.take (min k3 k)).flatMap enc).length = min k3 k * sz := by rw [flat_len henc, List.length_take, hl2]; congr 1; omega
      have hle : (o + min k3 k) * sz ≤ m * sz := Nat.mul_le_mul_right _ (by omega)
      have hle2 : m * sz ≤ c * sz := Nat.mul_le_mul_right _ g1
      have hall : ∀ u ∈ (l2.take (min k3 k)).flatMap enc, u.oneCell' = true := by
        intro u hu
        obtain ⟨z, _, hz2⟩ := List.mem_flatMap.1 hu
        exact List.all_eq_true.1 (h1 z) u hz2
      have hst := run_storeCells_row (P := P) (o := o * sz) (vs := (l2.take (min k3 k)).flatMap enc) hh (by rw [hnl, g3, ← Nat.add_mul]; omega) hall
      have hfc := run_firstCells_some (P := P) w sz (min k3 k) ad k3 c3 ((l2.take (min k3 k)).flatMap enc) hnl hcells
      refine ⟨.int .i64 ((min k3 k : Nat) : Int), w.setRow gg (cur.toList.take (o * sz) ++ (l2.take (min k3 k)).flatMap enc ++ cur.toList.drop (o * sz + ((l2.take (min k3 k)).flatMap enc).length)).toArray, _, ?_, hw.upd hi (grownBy_setRow w gg _) (e' := .row (some ⟨gg, 0, none⟩) c e sz m ((l.take o ++ l2.take (min k3 k) ++ l.drop (o + min k3 k)).flatMap enc)) ?_ (fun g hg => .inl hg), h⟩
      · have hrun : (Builtin.copy_ #[T, T] ty #[.slice (some (Addr.add ⟨gg, 0, none⟩ (o * sz))) k c2, .slice (some ad) k3 c3]).run P w = .ok (.int .i64 ((min k3 k : Nat) : Int)) (w.setRow gg (cur.toList.take (o * sz) ++ (l2.take (min k3 k)).flatMap enc ++ cur.toList.drop (o * sz + ((l2.take (min k3 k)).flatMap enc).length)).toArray) := by
          rw [add_row]
          simp only [Builtin.copy_, Sem.run_bind, run_underlying hu, Result.andThen_ok, sizeOf, typeInfo, run_program, hinf, hs1, Builtin.lenOf, Sem.run_pure, hmin, hfc, hst, goInt, List.getElem?_toArray, List.getElem?_cons_zero, List.getElem?_cons_succ]
        simp only [execOp, resolve, invoke, builtin, Sem.run_bind, Sem.run_pure, Result.andThen_ok, List.map_toArray, List.map_cons, List.map_nil, ha.ev hx, ha.ev hy, Option.map_some, hrun]
      · have := row_write (o := o * sz) (vs := (l2.take (min k3 k)).flatMap enc) hh g1 g2 g3 g4 (by rw [hnl, ← Nat.add_mul]; exact hle) rfl
        rwa [flat3 henc (k := min k3 k) (by rw [List.length_take, hl2]; omega)] at this

/-- A call that is handed an own row and hands one back, in that memory or in new memory. -/
def RetGrow (w : World) (A : Option Addr) (T : TypeId) (sz m : Nat) (xs : List Value) (e : Ending) (w' : World) : Prop :=
  ∃ A' c', e = .returned (.slice A' m c') ∧ Bel (A.map (·.block)).toList w w' ∧ (HEnt.row A' c' T sz m xs).ok w' ∧ ∀ g, A'.map (·.block) = some g → A.map (·.block) = some g ∨ w.heap.size ≤ g
theorem One.callGrow {f : FuncId} {xs : List Operand} {vs : List Value} {ts : Array TypeId} {A : Option Addr} {c sz m m' i : Nat} {cells cells' : List Value} {H' : Option Addr → Nat → List HEnt} (hd : Nat.blt d n = true) (hc : callable P f = true) (hargs : Evs L xs vs)
    (hi : H[i]? = some (.row A c T sz m cells)) (hcc : ∀ w, HOk w0 F H w → Calls P f vs.toArray w (RetGrow w A T sz m' cells')) (hH : ∀ A' c', H.set i (.row A' c' T sz m' cells') = H' A' c') (h : ∀ A' c', K ((d, .slice A' m' c') :: L) (H' A' c')) :
    One P n w0 F ⟨some d, .call { callee := .value (.func f), args := xs.toArray, argTypes := ts }, ty, pos, aft, g⟩ L H K := by
  refine One.call (by simpa [dstOk] using hd) hc hargs hcc fun w e w' hw ⟨A', c', he, hb, hok, hbl⟩ => ⟨_, _, he, ?_, h A' c'⟩
  rw [← hH]
  refine hw.upd hi ?_ hok hbl
  exact ⟨hb.os, hb.tape, hb.output, hb.size, fun k hk hne => hb.block k hk (fun hx => hne (by
    cases A with
    | none => simp at hx
    | some a => simp at hx; simp [HEnt.block, hx]))⟩
/-- The same, of a slice of the row: the row goes in under another length. -/
theorem retGrow_same {w w' : World} {A : Option Addr} {c : Nat} {sz m : Nat} {xs : List Value} (hb : Bel (A.map (·.block)).toList w w') (hok : (HEnt.row A c T sz m xs).ok w') : RetGrow w A T sz m xs (.returned (.slice A m c)) w' :=
  ⟨A, c, rfl, hb, hok, fun _ h => .inl h⟩
end
end
/-- What is left where a part is taken out of a row and its end is cleared. -/
theorem del_take {α : Type} {z : α} {l : List α} {i j m : Nat} (hl : l.length = m) (hij : i ≤ j) (hjm : j ≤ m) :
    (List.take (i + (m - j)) (List.take (i + (m - j)) (List.take i l ++ List.drop j l ++ List.drop (i + (m - j)) l) ++ List.replicate (m - (i + (m - j))) z ++ List.drop (i + (m - j) + (m - (i + (m - j)))) (List.take i l ++ List.drop j l ++ List.drop (i + (m - j)) l))) = List.take i l ++ List.drop j l := by
  have h1 : (List.take i l ++ List.drop j l).length = i + (m - j) := by simp; omega
  have h2 : List.take (i + (m - j)) (List.take i l ++ List.drop j l ++ List.drop (i + (m - j)) l) = List.take i l ++ List.drop j l := by
    rw [List.take_append_of_le_length (by omega), List.take_of_length_le (by omega)]
  rw [h2, List.append_assoc, List.take_append_of_le_length (by omega), List.take_of_length_le (by omega)]
end Go.Proofs.YtlpgcbkialcjcaaGreatDoor
