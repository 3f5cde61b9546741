/- Texts: their bytes as a list. Conditions: none; proved of any program. -/
import Derived.Test.YtlpgcbkialcjcaaGreatDoorCv
import Derived.Laws.Strings
import Derived.Laws.Concat
namespace Go.Proofs.YtlpgcbkialcjcaaGreatDoor
open Go.RowKit
/-- A text, by its bytes. -/
abbrev strV (l : List UInt8) : Value := .string ⟨l.toArray⟩
theorem mk_toList (l : List UInt8) : (ByteArray.mk l.toArray).toList = l := ByteArray.toList_mk l
theorem mk_size (l : List UInt8) : (ByteArray.mk l.toArray).size = l.length := by simp [ByteArray.size]
theorem mk_app (a b : List UInt8) : ByteArray.mk a.toArray ++ ByteArray.mk b.toArray = ByteArray.mk (a ++ b).toArray := by
  apply ByteArray.ext
  simp [ByteArray.data_append]
theorem mk_extract (l : List UInt8) (i j : Nat) : (ByteArray.mk l.toArray).extract i j = ByteArray.mk ((l.drop i).take (j - i)).toArray := by
  apply ByteArray.ext
  simp [ByteArray.data_extract, List.extract_eq_take_drop]
section
variable {P : Program} {n : Nat} {w0 : World} {F : List Nat} {H : List HEnt} {L : Env}
variable {ty : TypeId} {pos : String} {aft : Array Edge} {g : Option (Nat × Bool)} {d : Option Nat} {T T' : TypeId} {x y : Operand}
theorem Yv.strAdd {a b : List UInt8} (hx : ev L x = some (strV a)) (hy : ev L y = some (strV b)) (h : a.length + b.length ≤ 9223372036854775807) : Yv P n w0 F H L ⟨d, .binOp .add T x y T', ty, pos, aft, g⟩ (strV (a ++ b)) := fun aa w ha hw => by
  have h2 : (ByteArray.mk a.toArray).size + (ByteArray.mk b.toArray).size ≤ 9223372036854775807 := by rw [mk_size, mk_size]; exact h
  simp only [execOp, ha.ev hx, ha.ev hy, eqGuard_at_string, binOp_string_add, Sem.run_bind, Sem.run_pure, Result.andThen_ok, run_string_add_sum _ _ _ h2, mk_app]
theorem Yv.strEq {a b : List UInt8} (hx : ev L x = some (strV a)) (hy : ev L y = some (strV b)) : Yv P n w0 F H L ⟨d, .binOp .eql T x y T', ty, pos, aft, g⟩ (.bool (a == b)) := fun aa w ha hw => by
  simp only [execOp, ha.ev hx, ha.ev hy, eqGuard_at_string, binOp_string_eql, Sem.run_bind, Sem.run_pure, Result.andThen_ok, mk_toList]
theorem Yv.strNe {a b : List UInt8} (hx : ev L x = some (strV a)) (hy : ev L y = some (strV b)) : Yv P n w0 F H L ⟨d, .binOp .neq T x y T', ty, pos, aft, g⟩ (.bool (!(a == b))) := fun aa w ha hw => by
  simp only [execOp, ha.ev hx, ha.ev hy, eqGuard_at_string, binOp_string_neq, Sem.run_bind, Sem.run_pure, Result.andThen_ok, mk_toList]
theorem Yv.strLen {a : List UInt8} (hT : P.underlying T = some .string) (hx : ev L x = some (strV a)) :
    Yv P n w0 F H L ⟨d, .call { callee := .builtin .len, args := #[x], argTypes := #[T] }, ty, pos, aft, g⟩ (.int .i64 (a.length : Int)) := fun aa w ha hw => by
  have h1 := run_len_string (P := P) w T ty (ByteArray.mk a.toArray) hT
  rw [mk_size] at h1
  simp only [execOp, resolve, invoke, builtin, Sem.run_bind, Sem.run_pure, Result.andThen_ok, List.map_toArray, List.map_cons, List.map_nil, ha.ev hx, h1]
  rfl
theorem Yv.strIdx {a : List UInt8} {k : IntKind} {ix : Int} (i : Nat) (hT : P.underlying T = some .string) (hx : ev L x = some (strV a)) (hy : ev L y = some (.int k ix)) (hk : ix = (i : Int)) (hi : i < a.length) :
    Yv P n w0 F H L ⟨d, .index T x y, ty, pos, aft, g⟩ (.int .u8 ((nth a i).toNat : Int)) := fun aa w ha hw => by
  subst hk
  have h2 : i < (ByteArray.mk a.toArray).size := by rw [mk_size]; exact hi
  have h3 : (ByteArray.mk a.toArray)[i] = nth a i := by simp [nth, hi, ByteArray.getElem_eq_getElem_data]
  simp only [execOp, ha.ev hx, ha.ev hy, Sem.run_bind, run_index_string w T _ k i hT]
  rw [dif_pos ⟨by omega, by omega⟩]
  simp only [Int.toNat_natCast, h3, Result.andThen_ok, Sem.run_pure]
/-- 's[lo:hi]' of a text -/
theorem Yv.strCut {a : List UInt8} {lo hi : Operand} {ix jx : Int} (i j : Nat) (hT : P.underlying T = some .string) (hx : ev L x = some (strV a)) (hl : ev L lo = some (.int .i64 ix)) (hh : ev L hi = some (.int .i64 jx)) (h1 : ix = (i : Int)) (h2 : jx = (j : Int)) (hij : i ≤ j) (hj : j ≤ a.length) :
    Yv P n w0 F H L ⟨d, .slice T x (some lo) (some hi) none, ty, pos, aft, g⟩ (strV ((a.drop i).take (j - i))) := fun aa w ha hw => by
  subst h1; subst h2
  have h3 : j ≤ (ByteArray.mk a.toArray).size := by rw [mk_size]; exact hj
  simp [execOp, ha.ev hx, ha.ev hl, ha.ev hh, Instr.sliceAt, Instr.slice, run_underlying hT, Instr.sliceBounds, Instr.sliceBound, asIntOf, h3, hij, mk_extract]
theorem Yv.strTo {a : List UInt8} {hi : Operand} {jx : Int} (j : Nat) (hT : P.underlying T = some .string) (hx : ev L x = some (strV a)) (hh : ev L hi = some (.int .i64 jx)) (h2 : jx = (j : Int)) (hj : j ≤ a.length) :
    Yv P n w0 F H L ⟨d, .slice T x none (some hi) none, ty, pos, aft, g⟩ (strV (a.take j)) := fun aa w ha hw => by
  subst h2
  have h3 : j ≤ (ByteArray.mk a.toArray).size := by rw [mk_size]; exact hj
  simp [execOp, ha.ev hx, ha.ev hh, Instr.sliceAt, Instr.slice, run_underlying hT, Instr.sliceBounds, Instr.sliceBound, asIntOf, h3, mk_extract]
theorem Yv.strFrom {a : List UInt8} {lo : Operand} {ix : Int} (i : Nat) (hT : P.underlying T = some .string) (hx : ev L x = some (strV a)) (hl : ev L lo = some (.int .i64 ix)) (h1 : ix = (i : Int)) (hi : i ≤ a.length) :
    Yv P n w0 F H L ⟨d, .slice T x (some lo) none none, ty, pos, aft, g⟩ (strV (a.drop i)) := fun aa w ha hw => by
  subst h1
  have h3 : i ≤ (ByteArray.mk a.toArray).size := by rw [mk_size]; exact hi
  have h4 : (a.drop i).take (a.length - i) = a.drop i := List.take_of_length_le (by simp)
  simp [execOp, ha.ev hx, ha.ev hl, Instr.sliceAt, Instr.slice, run_underlying hT, Instr.sliceBounds, Instr.sliceBound, asIntOf, h3, mk_extract, mk_size, h4]
  intro h5
  omega
end
end Go.Proofs.YtlpgcbkialcjcaaGreatDoor
