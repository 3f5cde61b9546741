/- Convoys: the even split, walked and in plain Lean. Conditions: none. -/
import Derived.Test.YtfpglglolhlegaaConD
import Derived.Test.YtfpglglolhlegaaCw
namespace Go.Proofs.Ytfpglglolhlegaa
open Go.RowKit
set_option maxRecDepth 100000
/-! The even split, in plain Lean -/
abbrev EvB := List Int × Int
/-- The better one of two: the first, unless the second is there and less. -/
def comb (x y : EvB) : EvB := if 0 ≤ y.2 ∧ (x.2 < 0 ∨ y.2 < x.2) then y else x
theorem comb_assoc (x y z : EvB) : comb (comb x y) z = comb x (comb y z) := by
  unfold comb
  repeat' split
  all_goals first | rfl | omega
theorem comb_none {x : EvB} {s : List Int} : comb x (s, -1) = x := by
  unfold comb
  rw [if_neg (by simp)]
/-- The best of f 1 .. f m. -/
def foldTo (f : Nat → EvB) : Nat → EvB
  | 0 => ([], -1)
  | m + 1 => comb (foldTo f m) (f (m + 1))
def sqTo (l : List Int) : Nat → Int
  | 0 => 0
  | k + 1 => sqTo l k + nth l k * nth l k
def evenGo (p : Int) (l : List Int) (cl : Int) : Nat → List Int → EvB
  | 0, s => match slacks p l cl s with
    | none => ([], -1)
    | some (o, e) => if e < l.length then ([], -1) else (s, sqTo o o.length)
  | k + 1, s => match slacks p l cl s with
    | none => ([], -1)
    | some (_, e) => foldTo (fun n => evenGo p l cl k (s ++ [(n : Int)])) (l.length - e)
section
variable {p cl : Int} {l s : List Int}
theorem slacksGo_app {t : List Int} : ∀ {i : Nat}, i ≤ s.length → slacksGo p l cl (s ++ t) i = slacksGo p l cl s i
  | 0, _ => rfl
  | i + 1, h => by
    have e : nth (s ++ t) i = nth s i := by simp [nth, List.getElem?_append_left (show i < s.length by omega)]
    rw [slacksGo, slacksGo, slacksGo_app (by omega), e]
theorem slacks_snoc {n : Int} : slacks p l cl (s ++ [n]) = match slacks p l cl s with
    | none => none
    | some (o, e) => if 1 ≤ n ∧ n ≤ (l.length : Int) - (e : Int) then (if slackOf p l cl e n.toNat < 0 then none else some (o ++ [slackOf p l cl e n.toNat], e + n.toNat)) else none := by
  have e : nth (s ++ [n]) s.length = n := by simp [nth]
  have hl : (s ++ [n]).length = s.length + 1 := by simp
  unfold slacks
  rw [hl, slacksGo, slacksGo_app (Nat.le_refl _), e]
  cases slacksGo p l cl s s.length <;> rfl
theorem slacks_snoc_none {n : Int} (h : slacks p l cl s = none) : slacks p l cl (s ++ [n]) = none := by rw [slacks_snoc, h]
/-- What is left of the barges behind these parts. -/
def leftOf (p : Int) (l : List Int) (cl : Int) (s : List Int) (m : Nat) : Prop := ∀ o e, slacks p l cl s = some (o, e) → e + m = l.length
theorem leftOf_snoc {m n : Nat} (h : leftOf p l cl s m) (hn : n ≤ m) : leftOf p l cl (s ++ [(n : Int)]) (m - n) := fun o e h2 => by
  rw [slacks_snoc] at h2
  split at h2
  · cases h2
  · rename_i o1 e1 h3
    have := h _ _ h3
    split at h2
    · split at h2
      · cases h2
      · simp only [Option.some.injEq, Prod.mk.injEq] at h2
        omega
    · cases h2
theorem evenGo_none (h : slacks p l cl s = none) : ∀ {k : Nat}, evenGo p l cl k s = ([], -1)
  | 0 => by rw [evenGo, h]
  | k + 1 => by rw [evenGo, h]
theorem foldTo_none {f : Nat → EvB} : ∀ {m : Nat}, (∀ i, 1 ≤ i → i ≤ m → f i = ([], -1)) → foldTo f m = ([], -1)
  | 0, _ => rfl
  | m + 1, h => by rw [foldTo, foldTo_none (fun i h1 h2 => h i h1 (by omega)), h (m + 1) (by omega) (by omega)]; exact comb_none
theorem evenGo_succ {m k : Nat} (h : leftOf p l cl s m) : evenGo p l cl (k + 1) s = foldTo (fun n => evenGo p l cl k (s ++ [(n : Int)])) m := by
  cases hs : slacks p l cl s with
  | none =>
    rw [evenGo_none hs, foldTo_none]
    intro i _ _
    exact evenGo_none (slacks_snoc_none hs)
  | some x =>
    obtain ⟨o, e⟩ := x
    have := h _ _ hs
    rw [evenGo, hs]
    simp only
    rw [show l.length - e = m by omega]
theorem foldTo_ok {f : Nat → EvB} (hf : ∀ n, 0 ≤ (f n).2 ∨ f n = ([], -1)) : ∀ m, 0 ≤ (foldTo f m).2 ∨ foldTo f m = ([], -1)
  | 0 => .inr rfl
  | m + 1 => by
    rw [foldTo]
    unfold comb
    split
    · exact hf _
    · exact foldTo_ok hf m
theorem sqTo_nonneg {o : List Int} : ∀ {k : Nat}, 0 ≤ sqTo o k
  | 0 => Int.le_refl 0
  | k + 1 => by
    have h1 := sqTo_nonneg (o := o) (k := k)
    have h2 : 0 ≤ nth o k * nth o k := by
      rcases Int.le_total 0 (nth o k) with h | h
      · exact Int.mul_nonneg h h
      · exact Int.mul_nonneg_of_nonpos_of_nonpos h h
    rw [sqTo]; omega
theorem evenGo_ok : ∀ {k : Nat} {s : List Int}, 0 ≤ (evenGo p l cl k s).2 ∨ evenGo p l cl k s = ([], -1)
  | 0, s => by
    rw [evenGo]
    split
    · exact .inr rfl
    · split
      · exact .inr rfl
      · exact .inl sqTo_nonneg
  | k + 1, s => by
    rw [evenGo]
    split
    · exact .inr rfl
    · exact foldTo_ok (fun n => evenGo_ok) _
theorem comb_first {k : Nat} : comb ([], -1) (evenGo p l cl k s) = evenGo p l cl k s := by
  rcases evenGo_ok (p := p) (l := l) (cl := cl) (k := k) (s := s) with h | h
  · unfold comb
    rw [if_pos ⟨h, .inl (by simp)⟩]
  · rw [h]; exact comb_none
theorem leftOf_nil : leftOf p l cl [] l.length := fun o e h => by
  simp only [slacks, List.length_nil, slacksGo, Option.some.injEq, Prod.mk.injEq] at h
  omega
/-- The slacks are small. -/
theorem slacksGo_in (hp : 1 ≤ p) (hcl : cl ≤ 20) (hb : ∀ k, k < l.length → 1 ≤ nth l k ∧ nth l k ≤ 6) : ∀ {i e : Nat} {o : List Int}, slacksGo p l cl s i = some (o, e) → e ≤ l.length ∧ o.length = i ∧ i ≤ e ∧ ∀ x ∈ o, 0 ≤ x ∧ x ≤ 20
  | 0, e, o, h => by
    simp only [slacksGo, Option.some.injEq, Prod.mk.injEq] at h
    obtain ⟨rfl, rfl⟩ := h
    simp
  | i + 1, e, o, h => by
    rw [slacksGo] at h
    split at h
    · cases h
    · rename_i o1 e1 h1
      obtain ⟨i1, i2, i3, i4⟩ := slacksGo_in hp hcl hb h1
      split at h
      · rename_i h2
        split at h
        · cases h
        · rename_i h3
          simp only [Option.some.injEq, Prod.mk.injEq] at h
          obtain ⟨rfl, rfl⟩ := h
          refine ⟨by omega, by simp [i2], by omega, fun x hx => ?_⟩
          rcases List.mem_append.1 hx with hx | hx
          · exact i4 x hx
          · rw [List.mem_singleton] at hx
            subst hx
            refine ⟨by omega, ?_⟩
            unfold slackOf
            have hmono : ∀ {a b : Nat}, a ≤ b → b ≤ l.length → sumTo l a ≤ sumTo l b := fun {a b} hab hbl => by
              induction b with
              | zero => obtain rfl : a = 0 := by omega
                        exact Int.le_refl _
              | succ b ih =>
                rcases Nat.lt_or_ge a (b + 1) with h4 | h4
                · have := ih (by omega) (by omega)
                  have h5 := hb b (by omega)
                  rw [sumTo]; omega
                · obtain rfl : a = b + 1 := by omega
                  exact Int.le_refl _
            have := hmono (show e1 ≤ e1 + (nth s i).toNat by omega) (by omega)
            omega
      · cases h
theorem sqTo_le {o : List Int} (h : ∀ x ∈ o, 0 ≤ x ∧ x ≤ 20) : ∀ {k : Nat}, k ≤ o.length → sqTo o k ≤ 400 * (k : Int)
  | 0, _ => by simp [sqTo]
  | k + 1, hk => by
    have h1 := sqTo_le h (k := k) (by omega)
    have h2 := h (nth o k) (List.mem_of_getElem? (nth_get (show k < o.length by omega)))
    have h3 : nth o k * nth o k ≤ 20 * 20 := Int.mul_le_mul h2.2 h2.2 h2.1 (by omega)
    rw [sqTo]
    omega
end
/-- Where nothing comes of these parts. -/
theorem even_leaf {p cl : Int} {l s : List Int} {x : EvB} {m k : Nat} (h : leftOf p l cl s m) (h1 : ¬ (0 < m ∧ 0 < k)) (h2 : ¬ (((slacks p l cl s).isSome && decide (slAt (slacks p l cl s) = (l.length : Int))) = true ∧ k = 0)) : comb x (evenGo p l cl k s) = x := by
  cases hs : slacks p l cl s with
  | none => rw [evenGo_none hs]; exact comb_none
  | some y =>
    obtain ⟨o, e⟩ := y
    have h3 := h _ _ hs
    cases k with
    | zero =>
      have h4 : e < l.length := by
        rw [hs] at h2
        simp [slAt] at h2
        have h5 := of_decide_eq_false h2
        omega
      rw [evenGo, hs]
      simp only
      rw [if_pos h4]
      exact comb_none
    | succ k =>
      obtain rfl : m = 0 := by omega
      rw [evenGo_succ h]
      exact comb_none
theorem even_at {p cl : Int} {l s : List Int} (h2 : ((slacks p l cl s).isSome && decide (slAt (slacks p l cl s) = (l.length : Int))) = true) : evenGo p l cl 0 s = (s, sqTo (slRow (slacks p l cl s)) (slRow (slacks p l cl s)).length) := by
  cases hs : slacks p l cl s with
  | none => rw [hs] at h2; simp at h2
  | some y =>
    obtain ⟨o, e⟩ := y
    rw [hs] at h2
    simp only [slAt, Option.isSome_some, Bool.true_and] at h2
    have h5 := of_decide_eq_true h2
    rw [evenGo, hs]
    simp only
    rw [if_neg (by omega)]
    rfl
theorem slRow_in {p cl : Int} {l s : List Int} (hp : 1 ≤ p) (hcl : cl ≤ 20) (hb : ∀ k, k < l.length → 1 ≤ nth l k ∧ nth l k ≤ 6) : ∀ x ∈ slRow (slacks p l cl s), 0 ≤ x ∧ x ≤ 20 := by
  cases hs : slacks p l cl s with
  | none => intro x hx; simp [slRow] at hx
  | some y =>
    obtain ⟨o, e⟩ := y
    exact (slacksGo_in hp hcl hb hs).2.2.2
theorem slRow_len {p cl : Int} {l s : List Int} (hp : 1 ≤ p) (hcl : cl ≤ 20) (hb : ∀ k, k < l.length → 1 ≤ nth l k ∧ nth l k ≤ 6) : (slRow (slacks p l cl s)).length ≤ l.length := by
  cases hs : slacks p l cl s with
  | none => simp [slRow]
  | some y =>
    obtain ⟨o, e⟩ := y
    have := slacksGo_in hp hcl hb hs
    simp only [slRow]
    omega
/-- The visitor. -/
def visV (bg bv bc bn bl bb : Nat) : Value := .func (.func 69) #[] #[.pointer (some ⟨bg, 0, none⟩), .pointer (some ⟨bv, 0, none⟩), .pointer (some ⟨bc, 0, none⟩), .pointer (some ⟨bn, 0, none⟩), .pointer (some ⟨bl, 0, none⟩), .pointer (some ⟨bb, 0, none⟩)]
theorem args8 (a b c d e f g h : Value) : (#[] ++ [a, b].toArray ++ #[c, d, e, f, g, h]) = #[a, b, c, d, e, f, g, h] := rfl
/-- What a visit of parts does. -/
def VisitOK (k : Nat) : Prop := ∀ (w : World) (bg bv bc bn bl bb G cs c cb cg m : Nat) (As A Ab Ag : Option Addr) (p cl least lm : Int) (l ps best : List Int), lm = (m : Int) → validConvoy p l = true → 1 ≤ cl ∧ cl ≤ 20 → G ≤ 8 → ps.length + k = G → leftOf p l cl ps m → m ≤ 8 →
  HOk w (blks [.row As cs 3 1 ps.length (ps.flatMap intC), .blk bv 75 [visV bg bv bc bn bl bb], .blk bl 3 [.int .i64 least], .blk bb 22 [.slice A best.length c], .row A c 3 1 best.length (best.flatMap intC), .blk bg 22 [.slice Ag G cg], .blk bn 3 [.int .i64 cl], .blk bc 27 [.int .i64 p, .slice Ab l.length cb]]) [.row As cs 3 1 ps.length (ps.flatMap intC), .blk bv 75 [visV bg bv bc bn bl bb], .blk bl 3 [.int .i64 least], .blk bb 22 [.slice A best.length c], .row A c 3 1 best.length (best.flatMap intC), .blk bg 22 [.slice Ag G cg], .blk bn 3 [.int .i64 cl], .blk bc 27 [.int .i64 p, .slice Ab l.length cb]] w → Sl w 1 Ab l.length cb (l.flatMap intC) → (0 < l.length → (adr Ab).block ∉ blks [.row As cs 3 1 ps.length (ps.flatMap intC), .blk bv 75 [visV bg bv bc bn bl bb], .blk bl 3 [.int .i64 least], .blk bb 22 [.slice A best.length c], .row A c 3 1 best.length (best.flatMap intC), .blk bg 22 [.slice Ag G cg], .blk bn 3 [.int .i64 cl], .blk bc 27 [.int .i64 p, .slice Ab l.length cb]]) →
  Calls Try.prog 69 (#[] ++ [.slice As ps.length cs, .int .i64 lm].toArray ++ #[.pointer (some ⟨bg, 0, none⟩), .pointer (some ⟨bv, 0, none⟩), .pointer (some ⟨bc, 0, none⟩), .pointer (some ⟨bn, 0, none⟩), .pointer (some ⟨bl, 0, none⟩), .pointer (some ⟨bb, 0, none⟩)]) w
    (RetH w [.row As cs 3 1 ps.length (ps.flatMap intC), .blk bv 75 [visV bg bv bc bn bl bb], .blk bl 3 [.int .i64 least], .blk bb 22 [.slice A best.length c], .row A c 3 1 best.length (best.flatMap intC), .blk bg 22 [.slice Ag G cg], .blk bn 3 [.int .i64 cl], .blk bc 27 [.int .i64 p, .slice Ab l.length cb]] (fun (x : Option Addr × Nat) => [.blk bv 75 [visV bg bv bc bn bl bb], .blk bl 3 [.int .i64 (comb (best, least) (evenGo p l cl k ps)).2], .blk bb 22 [.slice x.1 (comb (best, least) (evenGo p l cl k ps)).1.length x.2], .row x.1 x.2 3 1 (comb (best, least) (evenGo p l cl k ps)).1.length ((comb (best, least) (evenGo p l cl k ps)).1.flatMap intC), .blk bg 22 [.slice Ag G cg], .blk bn 3 [.int .i64 cl], .blk bc 27 [.int .i64 p, .slice Ab l.length cb]]) (fun _ => .tuple #[]) (fun _ => True))
theorem visit_step {k : Nat} (ih : ∀ j, j < k → VisitOK j) : VisitOK k := by
  rintro w bg bv bc bn bl bb G cs c cb cg m As A Ab Ag p cl least lm l ps best rfl hv hcl hG hsk hlf hm8 hw hsl hne
  rw [args8]
  obtain ⟨hp1, hp2, hl1, hl2, hbb⟩ := validConvoy_ok hv
  have hrl := slRow_len (s := ps) hp1 hcl.2 hbb
  have hri := slRow_in (s := ps) hp1 hcl.2 hbb
  refine calls_of_run (vs := [_, _, _, _, _, _, _, _]) (L := [(0, _), (1, _), (2, _), (3, _), (4, _), (5, _), (6, _), (7, _)]) (n := 77) (F := blks _) (H := _) Try.func69 rfl rfl rfl rfl hw ?_
  refine Run.seq ?_
  refine Run.seq ?_
  refine Run.quiet (by intro h; cases h) ?_
  refine QOps.st rfl rfl (Yv.move rfl).yl ?_
  refine QOps.st rfl rfl (Yv.gtr rfl rfl).yl ?_
  refine QOps.st rfl rfl (Yv.move rfl).yl ?_
  refine' QOps.and [_, _, _, _, _] _ (.tmp 23) rfl rfl rfl rfl rfl rfl (fun hg1 => ?_) ?_
  rotate_left
  · try replace hg1 := of_decide_eq_true hg1
    refine QOps.st rfl rfl (Yv.move rfl).yl ?_
    refine QOps.st rfl rfl (Yv.lenS el22s rfl).yl ?_
    refine QOps.st rfl rfl (Yv.loadB (i := 5) lay22 rfl rfl rfl rfl).yl ?_
    refine QOps.st rfl rfl (Yv.lenS el22s rfl).yl ?_
    refine QOps.st rfl rfl (Yv.lss rfl rfl).yl ?_
    exact QOps.nil rfl
  refine QOps.nil ?_
  refine Run.cond rfl (fun hc1 => ?_) (fun hc1 => ?_)
  · try replace hc1 := of_decide_eq_true hc1
    have hk0 : 0 < m ∧ 0 < k := by simp at hc1; omega
    obtain ⟨k, rfl⟩ : ∃ k', k = k' + 1 := ⟨k - 1, by omega⟩
    have hes := evenGo_succ (k := k) hlf
    refine Run.seq ?_
    refine Run.seq ?_
    refine Run.quiet (by intro h; cases h) ?_
    refine QOps.st rfl rfl (Yv.assign rfl).yl ?_
    refine QOps.nil ?_
    refine Run.block ?_
    refine Run.loop (S := Nat × List Int × Int × Option Addr × Nat) (fun s => match s with | (n, B, q, Ao, co) => 1 ≤ n ∧ n ≤ m + 1 ∧ comb (best, least) (foldTo (fun n => evenGo p l cl k (ps ++ [(n : Int)])) (n - 1)) = (B, q)) (fun s => match s with | (n, B, q, Ao, co) => [(0, .slice As ps.length cs), (1, .int .i64 (m : Int)), (3, .pointer (some ⟨bv, 0, none⟩)), (10, .int .i64 (n : Int))]) (fun s => match s with | (n, B, q, Ao, co) => [.row As cs 3 1 ps.length (ps.flatMap intC), .blk bv 75 [visV bg bv bc bn bl bb], .blk bl 3 [.int .i64 q], .blk bb 22 [.slice Ao B.length co], .row Ao co 3 1 B.length (B.flatMap intC), .blk bg 22 [.slice Ag G cg], .blk bn 3 [.int .i64 cl], .blk bc 27 [.int .i64 p, .slice Ab l.length cb]]) (fun s => match s with | (n, B, q, Ao, co) => m + 1 - n) (1, best, least, A, c) ?_ (SubE.cons rfl (SubE.cons rfl (SubE.cons rfl (SubE.cons rfl (SubE.nil _))))) (List.Sublist.refl _) ?_
    · exact ⟨by omega, by omega, comb_none⟩
    · rintro ⟨n, B, q, Ao, co⟩ ⟨hn1, hnm, hB⟩
      show Run _ _ _ _ _ [(0, .slice As ps.length cs), (1, .int .i64 (m : Int)), (3, .pointer (some ⟨bv, 0, none⟩)), (10, .int .i64 (n : Int))] [.row As cs 3 1 ps.length (ps.flatMap intC), .blk bv 75 [visV bg bv bc bn bl bb], .blk bl 3 [.int .i64 q], .blk bb 22 [.slice Ao B.length co], .row Ao co 3 1 B.length (B.flatMap intC), .blk bg 22 [.slice Ag G cg], .blk bn 3 [.int .i64 cl], .blk bc 27 [.int .i64 p, .slice Ab l.length cb]] _
      refine Run.seq ?_
      refine Run.seq ?_
      refine Run.quiet (by intro h; cases h) ?_
      refine QOps.st rfl rfl (Yv.move rfl).yl ?_
      refine QOps.st rfl rfl (Yv.move rfl).yl ?_
      refine QOps.st rfl rfl (Yv.leq rfl rfl).yl ?_
      refine QOps.nil ?_
      refine Run.cond rfl (fun hc2 => ?_) (fun hc2 => ?_)
      · try replace hc2 := of_decide_eq_true hc2
        refine Run.skip ?_
        refine Run.seq ?_
        refine Run.block ?_
        refine Run.draws (fun H => (((H).eraseIdx 4).eraseIdx 3).eraseIdx 2) (m := 10) (listed := #[false, false, false, false, false, false, false, false, false, false]) (by kernel_rfl) rfl rfl ?_
        refine DOps.take (listed' := #[true, false, false, false, false, false, false, false, false, false]) 0 rfl (by kernel_rfl) rfl (List.Sublist.cons_cons _ (List.Sublist.cons_cons _ (List.Sublist.cons _ (List.Sublist.cons _ (List.Sublist.cons _ (List.Sublist.refl _)))))) rfl rfl (Yv.loadB (i := 1) lay75 rfl rfl rfl rfl) ?_
        refine DOps.take (listed' := #[true, true, false, false, false, false, false, false, false, false]) 1 rfl (by kernel_rfl) rfl (List.Sublist.cons_cons _ (List.Sublist.cons_cons _ (List.Sublist.cons _ (List.Sublist.cons _ (List.Sublist.cons _ (List.Sublist.refl _)))))) rfl rfl (Yv.move rfl) ?_
        refine DOps.take (listed' := #[true, true, false, true, false, false, false, false, false, false]) 3 rfl (by kernel_rfl) rfl (List.Sublist.cons_cons _ (List.Sublist.cons_cons _ (List.Sublist.cons _ (List.Sublist.cons _ (List.Sublist.cons _ (List.Sublist.refl _)))))) rfl rfl (Yv.move rfl) ?_
        refine DOps.take (listed' := #[true, true, false, true, false, false, true, false, false, false]) 6 rfl (by kernel_rfl) rfl (List.Sublist.cons_cons _ (List.Sublist.cons_cons _ (List.Sublist.cons _ (List.Sublist.cons _ (List.Sublist.cons _ (List.Sublist.refl _)))))) rfl rfl (Yv.move rfl) ?_
        refine DOps.take (listed' := #[true, true, false, true, false, false, true, true, false, false]) 7 rfl (by kernel_rfl) rfl (List.Sublist.cons_cons _ (List.Sublist.cons_cons _ (List.Sublist.cons _ (List.Sublist.cons _ (List.Sublist.cons _ (List.Sublist.refl _)))))) rfl rfl (Yv.move rfl) ?_
        refine DOps.take (listed' := #[true, true, false, true, false, false, true, true, true, false]) 8 rfl (by kernel_rfl) rfl (List.Sublist.cons_cons _ (List.Sublist.cons_cons _ (List.Sublist.cons _ (List.Sublist.cons _ (List.Sublist.cons _ (List.Sublist.refl _)))))) rfl rfl (Yv.sub rfl rfl (by omega)) ?_
        refine DOps.fork2 (l1 := #[true, true, true, true, false, false, true, true, true, false]) (l2 := #[true, true, false, true, true, false, true, true, true, false]) 2 4 rfl rfl (by kernel_rfl) rfl rfl rfl rfl ?_ ?_
        ·
          refine One.callRow rfl callable70 (.cons rfl (.nil)) (fun w' hw' => copyIntsN_spec (by first | rfl | (simp; done) | (simp; omega)) ((Rd.row (i := 0) rfl) w' hw') (by omega)) (fun A1 c1 => ?_)
          refine ⟨(List.Sublist.cons _ (List.Sublist.cons_cons _ (List.Sublist.cons_cons _ (List.Sublist.cons _ (List.Sublist.cons _ (List.Sublist.cons _ (List.Sublist.refl _))))))), ?_⟩
          refine DOps.only (listed' := #[true, true, true, true, true, false, true, true, true, false]) 4 rfl (by kernel_rfl) rfl rfl ?_
          refine One.buildSliceG (pv := [(0, _)]) (cs := [_]) (fun l => match l with | [a0_0] => [a0_0] | _ => []) rfl el22 (.cons rfl (.nil)) rfl rfl (by kernel_rfl) rfl rfl (fun b1 => ?_)
          refine ⟨(List.Sublist.cons _ (List.Sublist.cons _ (List.Sublist.cons_cons _ (List.Sublist.cons_cons _ (List.Sublist.cons _ (List.Sublist.cons _ (List.Sublist.cons _ (List.Sublist.refl _)))))))), ?_⟩
          refine DOps.only (listed' := #[true, true, true, true, true, true, true, true, true, false]) 5 rfl (by kernel_rfl) rfl rfl ?_
          refine One.append (enc := intC) (l := ps) (l2 := [(n : Int)]) (m' := (ps ++ [(n : Int)]).length) (i := 1) (H' := fun A c => [_, _, _, _, _, _, _, _, _, _]) rfl el22 zero3 rfl (by decide) rfl rfl rfl (Rd.row (i := 0) rfl) (fun _ => rfl) (by simp) (by simp; omega) (by simp; omega) (fun _ _ => rfl) (fun A2 c2 => ?_)
          refine ⟨(List.Sublist.cons _ (List.Sublist.cons _ (List.Sublist.cons_cons _ (List.Sublist.cons_cons _ (List.Sublist.cons _ (List.Sublist.cons _ (List.Sublist.cons _ (List.Sublist.refl _)))))))), ?_⟩
          refine DOps.only (listed' := #[true, true, true, true, true, true, true, true, true, true]) 9 rfl (by kernel_rfl) rfl rfl ?_
          refine One.callVH (E := [_, _, _, _, _, _, _, _]) (H1 := [_, _]) rfl rfl callable69 (.cons rfl (.cons rfl (.nil))) [false, true, false, true, true, true, true, true, true, true] rfl rfl (fun w' hw' => ih k (Nat.lt_succ_self k) w' bg bv bc bn bl bb G _ _ cb cg (m - n) _ _ Ab Ag p cl _ _ l _ _ (by omega) hv hcl hG (by simp; omega) (leftOf_snoc hlf (by omega)) (by omega) hw'.lendL ((Rd.argN hsl hne) w' hw') (fun hm => HOk.apartArg hw' hsl hne (fun e he => List.mem_append_left _ he) hm)) ?_
          rintro ⟨Av1, cv1⟩ -
          refine ⟨(List.Sublist.cons _ (List.Sublist.cons_cons _ (List.Sublist.cons_cons _ (List.Sublist.cons _ (List.Sublist.cons _ (List.Sublist.cons _ (List.Sublist.refl _))))))), ?_⟩
          refine DOps.done (by kernel_rfl) ?_
          refine Run.quiet (by intro h; cases h) ?_
          refine QOps.st rfl rfl (Yv.move rfl).yl ?_
          refine QOps.st rfl rfl (Yv.succN rfl rfl (by omega)).yl ?_
          refine QOps.st rfl rfl (Yv.assign rfl).yl ?_
          refine QOps.nil ?_
          refine ⟨(n + 1, _, _, _, _), ?_, ?_, (SubE.cons rfl (SubE.cons rfl (SubE.cons rfl (SubE.cons rfl (SubE.nil _))))), (List.Sublist.cons _ (List.Sublist.refl _))⟩
          · exact ⟨by omega, by omega, by rw [show n + 1 - 1 = (n - 1) + 1 by omega, foldTo, ← comb_assoc, show n - 1 + 1 = n by omega, hB]⟩
          · first | omega | (dsimp only; omega)
        ·
          refine One.buildSliceG (pv := [(0, _)]) (cs := [_]) (fun l => match l with | [a0_0] => [a0_0] | _ => []) rfl el22 (.cons rfl (.nil)) rfl rfl (by kernel_rfl) rfl rfl (fun b1 => ?_)
          refine ⟨(List.Sublist.cons _ (List.Sublist.cons_cons _ (List.Sublist.cons_cons _ (List.Sublist.cons _ (List.Sublist.cons _ (List.Sublist.cons _ (List.Sublist.refl _))))))), ?_⟩
          refine DOps.only (listed' := #[true, true, true, true, true, false, true, true, true, false]) 2 rfl (by kernel_rfl) rfl rfl ?_
          refine One.callRow rfl callable70 (.cons rfl (.nil)) (fun w' hw' => copyIntsN_spec (by first | rfl | (simp; done) | (simp; omega)) ((Rd.row (i := 1) rfl) w' hw') (by omega)) (fun A1 c1 => ?_)
          refine ⟨(List.Sublist.cons _ (List.Sublist.cons _ (List.Sublist.cons_cons _ (List.Sublist.cons_cons _ (List.Sublist.cons _ (List.Sublist.cons _ (List.Sublist.cons _ (List.Sublist.refl _)))))))), ?_⟩
          refine DOps.only (listed' := #[true, true, true, true, true, true, true, true, true, false]) 5 rfl (by kernel_rfl) rfl rfl ?_
          refine One.append (enc := intC) (l := ps) (l2 := [(n : Int)]) (m' := (ps ++ [(n : Int)]).length) (i := 0) (H' := fun A c => [_, _, _, _, _, _, _, _, _, _]) rfl el22 zero3 rfl (by decide) rfl rfl rfl (Rd.row (i := 1) rfl) (fun _ => rfl) (by simp) (by simp; omega) (by simp; omega) (fun _ _ => rfl) (fun A2 c2 => ?_)
          refine ⟨(List.Sublist.cons _ (List.Sublist.cons _ (List.Sublist.cons_cons _ (List.Sublist.cons_cons _ (List.Sublist.cons _ (List.Sublist.cons _ (List.Sublist.cons _ (List.Sublist.refl _)))))))), ?_⟩
          refine DOps.only (listed' := #[true, true, true, true, true, true, true, true, true, true]) 9 rfl (by kernel_rfl) rfl rfl ?_
          refine One.callVH (E := [_, _, _, _, _, _, _, _]) (H1 := [_, _]) rfl rfl callable69 (.cons rfl (.cons rfl (.nil))) [true, false, false, true, true, true, true, true, true, true] rfl rfl (fun w' hw' => ih k (Nat.lt_succ_self k) w' bg bv bc bn bl bb G _ _ cb cg (m - n) _ _ Ab Ag p cl _ _ l _ _ (by omega) hv hcl hG (by simp; omega) (leftOf_snoc hlf (by omega)) (by omega) hw'.lendL ((Rd.argN hsl hne) w' hw') (fun hm => HOk.apartArg hw' hsl hne (fun e he => List.mem_append_left _ he) hm)) ?_
          rintro ⟨Av1, cv1⟩ -
          refine ⟨(List.Sublist.cons _ (List.Sublist.cons_cons _ (List.Sublist.cons_cons _ (List.Sublist.cons _ (List.Sublist.cons _ (List.Sublist.cons _ (List.Sublist.refl _))))))), ?_⟩
          refine DOps.done (by kernel_rfl) ?_
          refine Run.quiet (by intro h; cases h) ?_
          refine QOps.st rfl rfl (Yv.move rfl).yl ?_
          refine QOps.st rfl rfl (Yv.succN rfl rfl (by omega)).yl ?_
          refine QOps.st rfl rfl (Yv.assign rfl).yl ?_
          refine QOps.nil ?_
          refine ⟨(n + 1, _, _, _, _), ?_, ?_, (SubE.cons rfl (SubE.cons rfl (SubE.cons rfl (SubE.cons rfl (SubE.nil _))))), (List.Sublist.cons _ (List.Sublist.refl _))⟩
          · exact ⟨by omega, by omega, by rw [show n + 1 - 1 = (n - 1) + 1 by omega, foldTo, ← comb_assoc, show n - 1 + 1 = n by omega, hB]⟩
          · first | omega | (dsimp only; omega)
      · try replace hc2 := of_decide_eq_false hc2
        obtain rfl : n = m + 1 := by omega
        have hE : comb (best, least) (evenGo p l cl (k + 1) ps) = (B, q) := by rw [hes]; exact hB
        refine Run.exit ?_
        refine Run.ret ?_
        refine retQ.of (.inr rfl) rfl (.nil) (fun w' hw' => ?_)
        exact ⟨(Ao, co), rfl, trivial, by rw [hE]; exact hw'.sub (List.Sublist.cons _ (List.Sublist.refl _))⟩
  · try replace hc1 := of_decide_eq_false hc1
    have hnl : ¬ (0 < m ∧ 0 < k) := by simp at hc1; omega
    refine Run.skip ?_
    refine Run.seq ?_
    refine Run.ops ?_
    refine SOps.st rfl rfl (Yv.loadBs (i := 7) lay27 rfl rfl rfl rfl).yl ?_
    refine SOps.st rfl rfl (Yv.loadB (i := 6) lay3 rfl rfl rfl rfl).yl ?_
    refine SOps.st rfl rfl (Yv.move rfl).yl ?_
    refine SOps.one rfl (One.callRow rfl callable64 (.cons rfl (.cons rfl (.cons rfl (.nil)))) (fun w' hw' => slacksOf_spec ((Rd.argN hsl hne) w' hw') ((Rd.row (i := 0) rfl) w' hw') (by assumption) (by assumption) (by omega)) (fun A3 c3 => ?_))
    refine SOps.st rfl rfl (Yv.move rfl).yl ?_
    refine SOps.st rfl rfl (Yv.extract rfl rfl).yl ?_
    refine SOps.st rfl rfl (Yv.extract rfl rfl).yl ?_
    refine SOps.st rfl rfl (Yv.assign rfl).yl ?_
    refine SOps.st rfl rfl (Yv.assign rfl).yl ?_
    refine SOps.nil ?_
    refine Run.seq ?_
    refine Run.seq ?_
    refine Run.quiet (by intro h; cases h) ?_
    refine QOps.st rfl rfl (Yv.move rfl).yl ?_
    refine QOps.st rfl rfl (Yv.not rfl).yl ?_
    refine QOps.st rfl rfl (Yv.move rfl).yl ?_
    refine' QOps.or [_, _, _, _, _] _ (.tmp 54) rfl rfl rfl rfl rfl rfl (fun hg2 => ?_) ?_
    rotate_left
    · try replace hg2 := of_decide_eq_false hg2
      refine QOps.st rfl rfl (Yv.move rfl).yl ?_
      refine QOps.st rfl rfl (Yv.lenS el22s rfl).yl ?_
      refine QOps.st rfl rfl (Yv.loadB (i := 6) lay22 rfl rfl rfl rfl).yl ?_
      refine QOps.st rfl rfl (Yv.lenS el22s rfl).yl ?_
      refine QOps.st rfl rfl (Yv.neI rfl rfl).yl ?_
      exact QOps.nil rfl
    refine QOps.nil ?_
    refine Run.cond rfl (fun hc3 => ?_) (fun hc3 => ?_)
    · try replace hc3 := of_decide_eq_true hc3
      have hE : comb (best, least) (evenGo p l cl k ps) = (best, least) := even_leaf hlf hnl (fun ⟨h3, h4⟩ => by rw [h3] at hc3; simp at hc3; omega)
      refine Run.ret ?_
      refine retQ.of (.inr rfl) rfl (.nil) (fun w' hw' => ?_)
      exact ⟨(A, c), rfl, trivial, by rw [hE]; exact hw'.sub (List.Sublist.cons _ (List.Sublist.cons _ (List.Sublist.refl _)))⟩
    · try replace hc3 := of_decide_eq_false hc3
      have hok : ((slacks p l cl ps).isSome && decide (slAt (slacks p l cl ps) = (l.length : Int))) = true := by
            cases hz : ((slacks p l cl ps).isSome && decide (slAt (slacks p l cl ps) = (l.length : Int))) <;> rw [hz] at hc3 <;> simp at hc3 ⊢
      obtain rfl : k = 0 := by rw [hok] at hc3; simp at hc3; omega
      have hea := even_at hok
      refine Run.skip ?_
      refine Run.seq ?_
      refine Run.quiet (by intro h; cases h) ?_
      refine QOps.st rfl rfl (Yv.assign rfl).yl ?_
      refine QOps.nil ?_
      refine Run.seq ?_
      refine Run.seq ?_
      refine Run.quiet (by intro h; cases h) ?_
      refine QOps.st rfl rfl (Yv.move rfl).yl ?_
      refine QOps.st rfl rfl (Yv.lenS el22s rfl).yl ?_
      refine QOps.st rfl rfl (Yv.move rfl).yl ?_
      refine QOps.nil ?_
      refine Run.block ?_
      refine Run.loop (S := Nat) (fun s => match s with | i => i ≤ (slRow (slacks p l cl ps)).length) (fun s => match s with | i => [(0, .slice As ps.length cs), (6, .pointer (some ⟨bl, 0, none⟩)), (7, .pointer (some ⟨bb, 0, none⟩)), (13, .int .i64 (sqTo (slRow (slacks p l cl ps)) i)), (56, .slice A3 ((slRow (slacks p l cl ps)).length) c3), (57, .int .i64 ((slRow (slacks p l cl ps)).length : Int)), (58, .int .i64 (i : Int))]) (fun s => match s with | i => [.row A3 c3 3 1 (slRow (slacks p l cl ps)).length ((slRow (slacks p l cl ps)).flatMap intC), .row As cs 3 1 ps.length (ps.flatMap intC), .blk bv 75 [visV bg bv bc bn bl bb], .blk bl 3 [.int .i64 least], .blk bb 22 [.slice A best.length c], .row A c 3 1 best.length (best.flatMap intC), .blk bg 22 [.slice Ag G cg], .blk bn 3 [.int .i64 cl], .blk bc 27 [.int .i64 p, .slice Ab l.length cb]]) (fun s => match s with | i => (slRow (slacks p l cl ps)).length - i) 0 ?_ (SubE.cons rfl (SubE.cons rfl (SubE.cons rfl (SubE.cons rfl (SubE.cons rfl (SubE.cons rfl (SubE.cons rfl (SubE.nil _)))))))) (List.Sublist.refl _) ?_
      · exact Nat.zero_le _
      · rintro i hi
        show Run _ _ _ _ _ [(0, .slice As ps.length cs), (6, .pointer (some ⟨bl, 0, none⟩)), (7, .pointer (some ⟨bb, 0, none⟩)), (13, .int .i64 (sqTo (slRow (slacks p l cl ps)) i)), (56, .slice A3 ((slRow (slacks p l cl ps)).length) c3), (57, .int .i64 ((slRow (slacks p l cl ps)).length : Int)), (58, .int .i64 (i : Int))] [.row A3 c3 3 1 (slRow (slacks p l cl ps)).length ((slRow (slacks p l cl ps)).flatMap intC), .row As cs 3 1 ps.length (ps.flatMap intC), .blk bv 75 [visV bg bv bc bn bl bb], .blk bl 3 [.int .i64 least], .blk bb 22 [.slice A best.length c], .row A c 3 1 best.length (best.flatMap intC), .blk bg 22 [.slice Ag G cg], .blk bn 3 [.int .i64 cl], .blk bc 27 [.int .i64 p, .slice Ab l.length cb]] _
        refine Run.seq ?_
        refine Run.quiet (by intro h; cases h) ?_
        refine QOps.st rfl rfl (Yv.lss rfl rfl).yl ?_
        refine QOps.nil ?_
        refine Run.seq ?_
        refine Run.cond rfl (fun hc4 => ?_) (fun hc4 => ?_)
        · try replace hc4 := of_decide_eq_true hc4
          have hsq := sqTo_le hri (k := i) (by omega)
          have hsn := sqTo_nonneg (o := slRow (slacks p l cl ps)) (k := i)
          have hx := hri (nth (slRow (slacks p l cl ps)) i) (List.mem_of_getElem? (nth_get (by omega)))
          have hxx : nth (slRow (slacks p l cl ps)) i * nth (slRow (slacks p l cl ps)) i ≤ 20 * 20 := Int.mul_le_mul hx.2 hx.2 hx.1 (by omega)
          have hxx0 : 0 ≤ nth (slRow (slacks p l cl ps)) i * nth (slRow (slacks p l cl ps)) i := Int.mul_nonneg hx.1 hx.1
          refine Run.skip ?_
          refine Run.seq ?_
          refine Run.block ?_
          refine Run.seq ?_
          refine Run.quiet (by intro h; cases h) ?_
          refine QOps.st rfl rfl (Yv.indexAddr i el22 rfl rfl rfl (Rd.row (i := 0) rfl) (by omega)).yl ?_
          refine QOps.st rfl rfl (Yv.loadE lay3 rfl intC_len (Rd.row (i := 0) rfl) (by first | omega | (simp; omega)) rfl).yl ?_
          refine QOps.st rfl rfl (Yv.assign rfl).yl ?_
          refine QOps.nil ?_
          refine Run.quiet (by intro h; cases h) ?_
          refine QOps.st rfl rfl (Yv.move rfl).yl ?_
          refine QOps.st rfl rfl (Yv.move rfl).yl ?_
          refine QOps.st rfl rfl (Yv.move rfl).yl ?_
          refine QOps.st rfl rfl (Yv.mul rfl rfl (by omega)).yl ?_
          refine QOps.st rfl rfl (Yv.add rfl rfl (by omega)).yl ?_
          refine QOps.st rfl rfl (Yv.assign rfl).yl ?_
          refine QOps.nil ?_
          refine Run.quiet (by intro h; cases h) ?_
          refine QOps.st rfl rfl (Yv.succN rfl rfl (by omega)).yl ?_
          refine QOps.st rfl rfl (Yv.move rfl).yl ?_
          refine QOps.nil ?_
          refine ⟨i + 1, ?_, ?_, (SubE.cons rfl (SubE.cons rfl (SubE.cons rfl (SubE.cons rfl (SubE.cons rfl (SubE.cons rfl (SubE.cons rfl (SubE.nil _)))))))), (List.Sublist.refl _)⟩
          · show i + 1 ≤ _; omega
          · first | omega | (dsimp only; omega)
        · try replace hc4 := of_decide_eq_false hc4
          obtain rfl : i = (slRow (slacks p l cl ps)).length := by omega
          refine Run.exit ?_
          refine Run.seq ?_
          refine Run.quiet (by intro h; cases h) ?_
          refine QOps.st rfl rfl (Yv.loadB (i := 3) lay3 rfl rfl rfl rfl).yl ?_
          refine QOps.st rfl rfl (Yv.lss rfl rfl).yl ?_
          refine QOps.st rfl rfl (Yv.move rfl).yl ?_
          refine' QOps.or [_, _, _] _ (.tmp 73) rfl rfl rfl rfl rfl rfl (fun hg3 => ?_) ?_
          rotate_left
          · try replace hg3 := of_decide_eq_false hg3
            refine QOps.st rfl rfl (Yv.move rfl).yl ?_
            refine QOps.st rfl rfl (Yv.loadB (i := 3) lay3 rfl rfl rfl rfl).yl ?_
            refine QOps.st rfl rfl (Yv.lss rfl rfl).yl ?_
            exact QOps.nil rfl
          refine QOps.nil ?_
          refine Run.cond rfl (fun hc5 => ?_) (fun hc5 => ?_)
          · try replace hc5 := of_decide_eq_true hc5
            have hE : comb (best, least) (evenGo p l cl 0 ps) = (ps, sqTo (slRow (slacks p l cl ps)) (slRow (slacks p l cl ps)).length) := by
                  rw [hea]; unfold comb; rw [if_pos ⟨sqTo_nonneg, by simp at hc5; simpa using hc5⟩]
            refine Run.ops ?_
            refine SOps.st rfl rfl (Yv.move rfl).yl ?_
            refine SOps.st rfl rfl (Yv.move rfl).yl ?_
            refine SOps.one rfl (One.store (i := 4) (off := 0) (vs := [_]) (cs' := [_]) (H' := [_, _, _, _, _, _, _, _, _]) lay22 rfl rfl rfl rfl rfl rfl rfl rfl rfl rfl ?_)
            refine SOps.one rfl (One.store (i := 3) (off := 0) (vs := [_]) (cs' := [_]) (H' := [_, _, _, _, _, _, _, _, _]) lay3 rfl rfl rfl rfl rfl rfl rfl rfl rfl rfl ?_)
            refine SOps.nil ?_
            refine retQ.of (.inl rfl) rfl (.nil) (fun w' hw' => ?_)
            exact ⟨(As, cs), rfl, trivial, by rw [hE]; exact (hw'.sub (List.Sublist.cons _ (List.Sublist.cons_cons _ (List.Sublist.cons_cons _ (List.Sublist.cons_cons _ (List.Sublist.cons_cons _ (List.Sublist.cons _ (List.Sublist.refl _)))))))).perm (List.perm_middle (l₁ := [_, _, _])).symm⟩
          · try replace hc5 := of_decide_eq_false hc5
            have hE : comb (best, least) (evenGo p l cl 0 ps) = (best, least) := by
                  rw [hea]; unfold comb; rw [if_neg (fun h => by have h9 := h.2; simp at hc5; omega)]
            refine Run.skip ?_
            refine retQ.of (.inl rfl) rfl (.nil) (fun w' hw' => ?_)
            exact ⟨(A, c), rfl, trivial, by rw [hE]; exact hw'.sub (List.Sublist.cons _ (List.Sublist.cons _ (List.Sublist.refl _)))⟩
theorem visit_spec : ∀ k, VisitOK k := fun k => Nat.strongRecOn k fun _ ih => visit_step ih
def evenOf (p : Int) (l : List Int) (cl : Int) : List Int × Bool := if (greedyOf p l cl).2 = true then ((evenGo p l cl (greedyOf p l cl).1.length []).1, true) else ([], false)
theorem EvenSplit_spec {w : World} {A : Option Addr} {c : Nat} {p cl : Int} {l : List Int} (hs : Sl w 1 A l.length c (l.flatMap intC)) :
    Calls Try.prog 29 #[.agg #[.int .i64 p, .slice A l.length c], .int .i64 cl] w (RetRow w 3 1 (evenOf p l cl).1.length ((evenOf p l cl).1.flatMap intC) (fun v => .tuple #[v, .bool (evenOf p l cl).2])) := by
  have hgl := greedyOf_len (p := p) (l := l) (cl := cl)
  refine calls_of_run (vs := [_, _]) (L := [(0, _), (1, _)]) (n := 28) (F := []) (H := []) Try.func29 rfl rfl rfl rfl (HOk.start _) ?_
  refine Run.seq ?_
  refine Run.ops ?_
  refine SOps.one rfl (One.box (cs := [_, _]) rfl rfl rfl (fun b1 => ?_))
  refine SOps.one rfl (One.box (cs := [_]) rfl rfl rfl (fun b2 => ?_))
  refine SOps.st rfl rfl (Yv.assign rfl).yl ?_
  refine SOps.st rfl rfl (Yv.assign rfl).yl ?_
  refine SOps.nil ?_
  refine Run.seq ?_
  refine Run.ops ?_
  refine SOps.st rfl rfl (Yv.loadBs (i := 1) lay27 rfl rfl rfl rfl).yl ?_
  refine SOps.st rfl rfl (Yv.loadB (i := 0) lay3 rfl rfl rfl rfl).yl ?_
  refine SOps.one rfl (One.callRow rfl callable26 (.cons rfl (.cons rfl (.nil))) (fun w' hw' => GreedySplit_spec ((Rd.arg hs) w' hw')) (fun A1 c1 => ?_))
  refine SOps.st rfl rfl (Yv.move rfl).yl ?_
  refine SOps.st rfl rfl (Yv.extract rfl rfl).yl ?_
  refine SOps.st rfl rfl (Yv.extract rfl rfl).yl ?_
  refine SOps.one rfl (One.alloc rfl zero22 (fun b3 => ?_))
  refine SOps.one rfl (One.store (i := 0) (off := 0) (vs := [_]) (cs' := [_]) (H' := [_, _, _, _]) lay22 rfl rfl rfl rfl rfl rfl rfl rfl rfl rfl ?_)
  refine SOps.st rfl rfl (Yv.assign rfl).yl ?_
  refine SOps.nil ?_
  refine Run.seq ?_
  refine Run.seq ?_
  refine Run.quiet (by intro h; cases h) ?_
  refine QOps.st rfl rfl (Yv.move rfl).yl ?_
  refine QOps.st rfl rfl (Yv.not rfl).yl ?_
  refine QOps.nil ?_
  refine Run.cond rfl (fun hc1 => ?_) (fun hc1 => ?_)
  · try replace hc1 := of_decide_eq_true hc1
    have hz : evenOf p l cl = ([], false) := by unfold evenOf; rw [if_neg (by simpa using hc1)]
    refine Run.seq ?_
    refine Run.quiet (by intro h; cases h) ?_
    refine QOps.st rfl rfl (Yv.assign rfl).yl ?_
    refine QOps.st rfl rfl (Yv.assign rfl).yl ?_
    refine QOps.nil ?_
    refine Run.ret ?_
    refine retQ.of (.inr rfl) rfl (.tmp rfl (.tmp rfl .nil)) (fun w' hw' => ?_)
    rw [hz]; exact ⟨_, _, rfl, hw'.bel.below, ⟨by first | rfl | simp, .inl ⟨rfl, rfl⟩⟩, by simp⟩
  · try replace hc1 := of_decide_eq_false hc1
    have hz : evenOf p l cl = ((comb (([] : List Int), (-1 : Int)) (evenGo p l cl (greedyOf p l cl).1.length [])).1, true) := by unfold evenOf; rw [if_pos (by simpa using hc1), comb_first]
    have hgy : (validConvoy p l && inB cl 1 20) = true := by
          cases h : (validConvoy p l && inB cl 1 20)
          · unfold greedyOf at hc1; rw [h] at hc1; simp at hc1
          · rfl
    simp only [Bool.and_eq_true] at hgy
    obtain ⟨hv, hg1⟩ := hgy
    have hcl := inB_iff.1 hg1
    obtain ⟨hp1, hp2, hl1, hl2, hbb⟩ := validConvoy_ok hv
    refine Run.skip ?_
    refine Run.seq ?_
    refine Run.ops ?_
    refine SOps.one rfl (One.buildSliceG (pv := []) (cs := []) (fun _ => []) rfl el22 .nil rfl rfl (by kernel_rfl) rfl rfl (fun b4 => ?_))
    refine SOps.one rfl (One.alloc rfl zero22 (fun b5 => ?_))
    refine SOps.one rfl (One.alloc rfl zero3 (fun b6 => ?_))
    refine SOps.one rfl (One.store (i := 1) (off := 0) (vs := [_]) (cs' := [_]) (H' := [_, _, _, _, _, _, _]) lay22 rfl rfl rfl rfl rfl rfl rfl rfl rfl rfl ?_)
    refine SOps.one rfl (One.store (i := 0) (off := 0) (vs := [_]) (cs' := [_]) (H' := [_, _, _, _, _, _, _]) lay3 rfl rfl rfl rfl rfl rfl rfl rfl rfl rfl ?_)
    refine SOps.nil ?_
    refine Run.seq ?_
    refine Run.ops ?_
    refine SOps.one rfl (One.alloc rfl zero75 (fun b7 => ?_))
    refine SOps.nil ?_
    refine Run.seq ?_
    refine Run.ops ?_
    refine SOps.st rfl rfl (Yv.makeFunc .nil (.cons rfl (.cons rfl (.cons rfl (.cons rfl (.cons rfl (.cons rfl (.nil)))))))).yl ?_
    refine SOps.one rfl (One.store (i := 0) (off := 0) (vs := [_]) (cs' := [_]) (H' := [_, _, _, _, _, _, _, _]) lay75 rfl rfl rfl rfl rfl rfl rfl rfl rfl rfl ?_)
    refine SOps.nil ?_
    refine Run.seq ?_
    refine Run.ops ?_
    refine SOps.st rfl rfl (Yv.loadB (i := 0) lay75 rfl rfl rfl rfl).yl ?_
    refine SOps.one rfl (One.buildSliceG (pv := []) (cs := []) (fun _ => []) rfl el22 .nil rfl rfl (by kernel_rfl) rfl rfl (fun b8 => ?_))
    refine SOps.st rfl rfl (Yv.fieldAddr fld27_1 rfl).yl ?_
    refine SOps.st rfl rfl (Yv.loadB (i := 8) lay22 rfl rfl rfl rfl).yl ?_
    refine SOps.st rfl rfl (Yv.lenS el22s rfl).yl ?_
    refine SOps.one rfl (One.callVH (E := [_, _, _, _, _, _, _, _]) (H1 := [_]) rfl rfl callable69 (.cons rfl (.cons rfl (.nil))) [true, true, true, true, true, true, false, true, true] rfl rfl (fun w' hw' => visit_spec (greedyOf p l cl).1.length w' b3 b7 b1 b2 b6 b5 _ 0 0 c _ l.length (some ⟨b8, 0, none⟩) (some ⟨b4, 0, none⟩) A _ p cl (-1) (l.length : Int) l [] [] rfl hv hcl (by omega) (by simp) leftOf_nil (by omega) hw'.lendL ((Rd.arg hs) w' hw') (fun hm => HOk.apartArg hw' hs (by simp) (fun e he => List.mem_append_left _ he) hm)) ?_)
    rintro ⟨Av1, cv1⟩ -
    refine SOps.nil ?_
    refine Run.seq ?_
    refine Run.quiet (by intro h; cases h) ?_
    refine QOps.st rfl rfl (Yv.loadB (i := 3) lay22 rfl rfl rfl rfl).yl ?_
    refine QOps.st rfl rfl (Yv.assign rfl).yl ?_
    refine QOps.st rfl rfl (Yv.assign rfl).yl ?_
    refine QOps.nil ?_
    refine Run.ret ?_
    refine retQ.of (.inr rfl) rfl (.tmp rfl (.tmp rfl .nil)) (fun w' hw' => ?_)
    rw [hz]; exact ⟨_, _, rfl, hw'.bel.below, hw'.ent _ (List.mem_of_getElem? (i := 4) rfl), fun g hg => (hw'.own _ (List.mem_of_getElem? (i := 4) rfl) g hg).elim id (by simp)⟩
end Go.Proofs.Ytfpglglolhlegaa
