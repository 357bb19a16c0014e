/- StruckOut of the program and of the reference return the same book and the same bool, the book stays as it is, and the result shares no memory with it or with another result, for every book and number; no condition. -/
import Derived.Test.YthdncdfgonbfeaaEOwnFnExactStruckOut
import Derived.Test.YthdncdfgonbfeaaECirc8
namespace Go.Proofs.Ythdncdfgonbfeaa.Pure
open Go.RowKit Go.Proofs.Ythdncdfgonbfeaa.QFnExactStruckOut Go.Proofs.YthdncdfgonbfeaaW.PrintWords Go.Proofs.YthdncdfgonbfeaaW.PrintLast Go.Proofs.YthdncdfgonbfeaaW.PrintMore
set_option linter.unusedVariables false
set_option linter.unusedSimpArgs false

theorem evPos {α : Type} {c : Prop} [Decidable c] {f g : Nat → Option α} {r : α} (h : c) (e : Ev f r) : Ev (fun k => if c then f k else g k) r := by
 simp only [if_pos h]; exact e
theorem evNeg {α : Type} {c : Prop} [Decidable c] {f g : Nat → Option α} {r : α} (h : ¬ c) (e : Ev g r) : Ev (fun k => if c then f k else g k) r := by
 simp only [if_neg h]; exact e
theorem evIs {α : Type} {g : Nat → Option α} {r r' : α} (e : Ev g r) (h : r = r') : Ev g r' := h ▸ e
theorem evIte {α : Type} {c : Prop} [Decidable c] {f g : Nat → Option α} {r : α} (e1 : c → Ev f r) (e2 : ¬ c → Ev g r) : Ev (fun k => if c then f k else g k) r := by
 by_cases h : c
 ·exact evPos h (e1 h)
 ·exact evNeg h (e2 h)
/-- What a number does, it does in one step more. -/
theorem w64 {j n : Nat} (h : j < n) (hn : n ≤ 9223372036854775807) : wrap64 ((j : Int) + 1) = ((j + 1 : Nat) : Int) := by unfold wrap64; omega
theorem rd_nat (xs : List Int) (j : Nat) : rd xs (j : Int) = xs.getD j 0 := by unfold rd; rw [Int.toNat_natCast]
theorem drop_step {α : Type} (xs : List α) (j : Nat) (z : α) (h : j < xs.length) : xs.drop j = xs.getD j z :: xs.drop (j + 1) := by
 rw [List.drop_eq_getElem_cons h, List.getD_eq_getElem?_getD, List.getElem?_eq_getElem h]; rfl
theorem drop_end {α : Type} (xs : List α) (j : Nat) (h : ¬ j < xs.length) : xs.drop j = [] := List.drop_eq_nil_of_le (by omega)
def debtOk (x : Int) : Bool := decide (0 ≤ x ∧ x ≤ 9)
def rowOk (c : List Int) (d : List (List Int)) (i : Nat) : Bool :=
 decide (0 ≤ c.getD i 0 ∧ c.getD i 0 ≤ 20) && ((d.getD i []).length == c.length) && ((d.getD i []).getD i 0 == 0) && (d.getD i []).all debtOk
/-- A book: what BookOk asks. -/
def okB (c : List Int) (d : List (List Int)) : Bool := decide (1 ≤ c.length ∧ c.length ≤ 4) && (d.length == c.length) && (List.range' 0 c.length).all (rowOk c d)
theorem range_step (i n : Nat) (h : i < n) : List.range' i (n - i) = i :: List.range' (i + 1) (n - (i + 1)) := by
 have : n - i = (n - (i + 1)) + 1 := by omega
 rw [this, List.range'_succ]
theorem range_end (i n : Nat) (h : ¬ i < n) : List.range' i (n - i) = [] := by
 have : n - i = 0 := by omega
 rw [this]; rfl
theorem rowOk_of {c : List Int} {d : List (List Int)} {i : Nat} (h1 : 0 ≤ c.getD i 0 ∧ c.getD i 0 ≤ 20) (h2 : (d.getD i []).length = c.length) (h3 : (d.getD i []).getD i 0 = 0) : rowOk c d i = (d.getD i []).all debtOk := by
 unfold rowOk; rw [decide_eq_true h1, beq_iff_eq.2 h2, beq_iff_eq.2 h3]; rfl
theorem rowOk_f1 {c : List Int} {d : List (List Int)} {i : Nat} (h1 : ¬ (0 ≤ c.getD i 0 ∧ c.getD i 0 ≤ 20)) : rowOk c d i = false := by
 unfold rowOk; rw [decide_eq_false h1]; rfl
theorem rowOk_f2 {c : List Int} {d : List (List Int)} {i : Nat} (h2 : ¬ (d.getD i []).length = c.length) : rowOk c d i = false := by
 unfold rowOk; rw [beq_eq_false_iff_ne.2 h2, Bool.and_false]; rfl
theorem rowOk_f3 {c : List Int} {d : List (List Int)} {i : Nat} (h3 : ¬ (d.getD i []).getD i 0 = 0) : rowOk c d i = false := by
 unfold rowOk; rw [beq_eq_false_iff_ne.2 h3, Bool.and_false]; rfl
theorem okB_of {c : List Int} {d : List (List Int)} (h1 : 1 ≤ c.length ∧ c.length ≤ 4) (h2 : d.length = c.length) : okB c d = (List.range' 0 c.length).all (rowOk c d) := by
 unfold okB; rw [decide_eq_true h1, beq_iff_eq.2 h2]; rfl
theorem okB_f1 {c : List Int} {d : List (List Int)} (h1 : ¬ (1 ≤ c.length ∧ c.length ≤ 4)) : okB c d = false := by
 unfold okB; rw [decide_eq_false h1]; rfl
theorem okB_f2 {c : List Int} {d : List (List Int)} (h2 : ¬ d.length = c.length) : okB c d = false := by
 unfold okB; rw [beq_eq_false_iff_ne.2 h2, Bool.and_false]; rfl
/-- What a book is like, row by row. -/
theorem okB_iff (c : List Int) (d : List (List Int)) : okB c d = true ↔ (1 ≤ c.length ∧ c.length ≤ 4) ∧ d.length = c.length ∧ ∀ i, i < c.length → (0 ≤ c.getD i 0 ∧ c.getD i 0 ≤ 20) ∧ (d.getD i []).length = c.length ∧ (d.getD i []).getD i 0 = 0 ∧ ∀ x ∈ d.getD i [], 0 ≤ x ∧ x ≤ 9 := by
 unfold okB
 rw [Bool.and_eq_true, Bool.and_eq_true, decide_eq_true_iff, beq_iff_eq, List.all_eq_true, and_assoc]
 refine and_congr_right fun _ => and_congr_right fun _ => ⟨fun h i hi => ?_, fun h i hi => ?_⟩
 ·have h2 := h i (by rw [List.mem_range']; exact ⟨i, hi, by omega⟩)
  unfold rowOk at h2
  rw [Bool.and_eq_true, Bool.and_eq_true, Bool.and_eq_true, decide_eq_true_iff, beq_iff_eq, beq_iff_eq, List.all_eq_true] at h2
  exact ⟨h2.1.1.1, h2.1.1.2, h2.1.2, fun x hx => of_decide_eq_true (h2.2 x hx)⟩
 ·obtain ⟨j, hj, rfl⟩ := List.mem_range'.1 hi
  have h2 := h (0 + 1 * j) (by omega)
  unfold rowOk
  rw [Bool.and_eq_true, Bool.and_eq_true, Bool.and_eq_true, decide_eq_true_iff, beq_iff_eq, beq_iff_eq, List.all_eq_true]
  exact ⟨⟨⟨h2.1, h2.2.1⟩, h2.2.2.1⟩, fun x hx => decide_eq_true (h2.2.2.2 x hx)⟩

theorem rdR_nat (xs : List (List Int)) (j : Nat) : rd_L1 xs (j : Int) = xs.getD j [] := by unfold rd_L1; rw [Int.toNat_natCast]

/-- The sum of numbers. -/
def sm : List Int → Int
 | [] => 0
 | x :: r => x + sm r
theorem take_snoc {α : Type} (xs : List α) (z : α) (j : Nat) (h : j < xs.length) : xs.take (j + 1) = xs.take j ++ [xs.getD j z] := by
 rw [List.take_add_one, List.getElem?_eq_getElem h, List.getD_eq_getElem?_getD, List.getElem?_eq_getElem h]; rfl
theorem getD_mem {xs : List Int} {j : Nat} (h : j < xs.length) : xs.getD j 0 ∈ xs := by
 rw [List.getD_eq_getElem?_getD, List.getElem?_eq_getElem h]; exact List.getElem_mem h
theorem mid_set {α : Type} (A B : List α) (x y : α) (i : Nat) (h : A.length = i) : (A ++ x :: B).set i y = A ++ y :: B := by
 rw [List.set_append_right _ _ (by omega), h, Nat.sub_self]; rfl
theorem rmap_set {α : Type} (f : Nat → α) (n i : Nat) (y : α) : ((List.range n).map f).set i y = (List.range n).map fun j => if j = i then y else f j := by
 refine List.ext_getElem (by simp) fun j h1 h2 => ?_
 simp only [List.getElem_set, List.getElem_map, List.getElem_range]
 by_cases e : i = j
 ·simp [e]
 ·rw [if_neg e, if_neg (fun h => e h.symm)]
theorem rmap_get (f : Nat → Int) (n i : Nat) (h : i < n) : ((List.range n).map f).getD i 0 = f i := by
 rw [List.getD_eq_getElem?_getD, List.getElem?_map, List.getElem?_range h]; rfl
theorem rmap_congr {α : Type} {f g : Nat → α} {n : Nat} (h : ∀ j, j < n → f j = g j) : (List.range n).map f = (List.range n).map g :=
 List.map_congr_left fun j hj => h j (List.mem_range.1 hj)
theorem rmap_succ {α : Type} (f : Nat → α) (n : Nat) : (List.range (n + 1)).map f = (List.range n).map f ++ [f n] := by
 rw [List.range_succ, List.map_append]; rfl
/-- What a bank owes in all; what it is owed, by the first i banks. -/
def owesI (d : List (List Int)) (i : Nat) : Int := sm (d.getD i [])
def owedI (d : List (List Int)) (i j : Nat) : Int := sm ((d.take i).map fun r => r.getD j 0)
def owesV (d : List (List Int)) (n : Nat) : List Int := (List.range n).map (owesI d)
def owedV (d : List (List Int)) (n : Nat) : List Int := (List.range n).map (owedI d n)
def netsV (d : List (List Int)) (n : Nat) : List Int := (List.range n).map fun i => owedI d n i - owesI d i
/-- The facts of a book, as they are used. -/
structure Bk (c : List Int) (d : List (List Int)) : Prop where
 n1 : 1 ≤ c.length
 n4 : c.length ≤ 4
 hd : d.length = c.length
 hr : ∀ i, i < c.length → (d.getD i []).length = c.length
 he : ∀ i, i < c.length → ∀ x ∈ d.getD i [], 0 ≤ x ∧ x ≤ 9
 hz : ∀ i, i < c.length → (d.getD i []).getD i 0 = 0
 hc : ∀ i, i < c.length → 0 ≤ c.getD i 0 ∧ c.getD i 0 ≤ 20
theorem Bk.of {c : List Int} {d : List (List Int)} (h : okB c d = true) : Bk c d := by
 obtain ⟨⟨a1, a2⟩, a3, a4⟩ := (okB_iff c d).1 h
 exact ⟨a1, a2, a3, fun i hi => (a4 i hi).2.1, fun i hi => (a4 i hi).2.2.2, fun i hi => (a4 i hi).2.2.1, fun i hi => (a4 i hi).1⟩
theorem Bk.ent {c : List Int} {d : List (List Int)} (h : Bk c d) {i j : Nat} (hi : i < c.length) (hj : j < c.length) : 0 ≤ (d.getD i []).getD j 0 ∧ (d.getD i []).getD j 0 ≤ 9 :=
 h.he i hi _ (getD_mem (by rw [h.hr i hi]; exact hj))
theorem getD_bound {d : List (List Int)} {n : Nat} (h : ∀ r ∈ d, r.length ≤ n) (i : Nat) : (d.getD i []).length ≤ n := by
 rw [List.getD_eq_getElem?_getD]
 by_cases hi : i < d.length
 ·rw [List.getElem?_eq_getElem hi]; exact h _ (List.getElem_mem hi)
 ·rw [List.getElem?_eq_none (by omega)]; simp

theorem l1In_b (n a b : Int) : spec_l1In.f n a b = some (decide (a ≤ n ∧ n ≤ b)) := by
 unfold spec_l1In.f
 by_cases h : n ≥ a
 ·rw [if_pos h]; congr 1; rw [Bool.eq_iff_iff, decide_eq_true_iff, decide_eq_true_iff]; omega
 ·rw [if_neg h]; congr 1; symm; exact decide_eq_false (by omega)
theorem specBookOk_l1 (c : List Int) (d : List (List Int)) (i : Nat) (hi : i < d.length) (hr : (d.getD i []).length ≤ 9223372036854775807) (r : Bool) (hn : Ev (fun k => spec_BookOk.l0 k (wrap64 ((i : Int) + 1)) c d) r) :
  ∀ (m j : Nat), j + m = (d.getD i []).length → Ev (fun k => spec_BookOk.l1 k (i : Int) (j : Int) c d) (((d.getD i []).drop j).all debtOk && r)
 | 0, j => fun h => by
  rw [drop_end _ _ (by omega)]
  refine Ev.step (fun k => ?_) hn
  simp only [spec_BookOk.l1]
  rw [rdR_nat, if_pos (by omega), if_pos (by omega), if_neg (by omega)]
 | m + 1, j => fun h => by
  rw [drop_step _ j 0 (by omega), List.all_cons]
  have ih := specBookOk_l1 c d i hi hr r hn m (j + 1) (by omega)
  have hstep : ∀ k, spec_BookOk.l1 (k + 1) (i : Int) (j : Int) c d = if debtOk ((d.getD i []).getD j 0) = true then spec_BookOk.l1 k (i : Int) ((j + 1 : Nat) : Int) c d else some false := by
   intro k
   simp only [spec_BookOk.l1]
   rw [rdR_nat, if_pos (by omega), if_pos (by omega), if_pos (by omega), if_pos (by omega), rd_nat, l1In_b, w64 (show j < (d.getD i []).length by omega) hr]
   rfl
  refine Ev.step hstep ?_
  cases hb : debtOk ((d.getD i []).getD j 0) with
  | true => exact evPos rfl (by simpa using ih)
  | false => exact evNeg (by simp) (by simpa using Ev.now false)
theorem specBookOk_l0 (c : List Int) (d : List (List Int)) (hc : c.length ≤ 9223372036854775807) (hd : d.length = c.length) (hr : ∀ i, (d.getD i []).length ≤ 9223372036854775807) :
  ∀ (m i : Nat), i + m = c.length → Ev (fun k => spec_BookOk.l0 k (i : Int) c d) ((List.range' i (c.length - i)).all (rowOk c d))
 | 0, i => fun h => by
  rw [range_end _ _ (by omega)]
  refine Ev.step (f := fun _ => some true) (fun k => ?_) (Ev.now true)
  simp only [spec_BookOk.l0]
  rw [if_neg (by omega)]
 | m + 1, i => fun h => by
  rw [range_step _ _ (by omega), List.all_cons]
  have ih := specBookOk_l0 c d hc hd hr m (i + 1) (by omega)
  rw [← w64 (show i < c.length by omega) hc] at ih
  refine Ev.step (fun k => by simp only [spec_BookOk.l0]; rfl) ?_
  rw [rdR_nat]
  simp only [rd_nat, l1In_b, Option.bind_some]
  refine evPos (by omega) (evPos (by omega) ?_)
  have fin : ∀ b : Bool, b = true → Ev (fun k => spec_BookOk.j2 k (i : Int) b c d) false := fun b hb => by
   refine Ev.step (f := fun _ => some false) (fun k => ?_) (Ev.now false)
   simp only [spec_BookOk.j2]
   rw [if_pos hb]
  by_cases h1 : 0 ≤ c.getD i 0 ∧ c.getD i 0 ≤ 20
  ·refine evPos (decide_eq_true_iff.2 h1) (evPos (by omega) ?_)
   by_cases h2 : (d.getD i []).length = c.length
   ·refine evPos (by omega) (evPos (by omega) ?_)
    by_cases h3 : (d.getD i []).getD i 0 = 0
    ·have l1 := specBookOk_l1 c d i (by omega) (hr i) _ ih (d.getD i []).length 0 (by omega)
     refine Ev.step (f := fun k => spec_BookOk.l1 k (i : Int) ((0 : Nat) : Int) c d) (fun k => ?_) (evIs l1 ?_)
     ·simp only [spec_BookOk.j2]
      rw [if_neg (by simpa using h3)]; rfl
     ·rw [rowOk_of h1 h2 h3, List.drop_zero]
    ·exact evIs (fin _ (by simpa using h3)) (by rw [rowOk_f3 h3, Bool.false_and])
   ·exact evNeg (by omega) (evIs (fin _ rfl) (by rw [rowOk_f2 h2, Bool.false_and]))
  ·exact evNeg (fun h => h1 (decide_eq_true_iff.1 h)) (evIs (fin _ rfl) (by rw [rowOk_f1 h1, Bool.false_and]))
theorem specBookOk_f (c : List Int) (d : List (List Int)) (hc : c.length ≤ 9223372036854775807) (hr : ∀ i, (d.getD i []).length ≤ 9223372036854775807) : Ev (fun k => spec_BookOk.f k c d) (okB c d) := by
 refine Ev.congr (fun k => by unfold spec_BookOk.f; rw [l1In_b, Option.bind_some]) ?_
 have fin : ∀ b : Bool, b = true → Ev (fun k => spec_BookOk.j0 k b c d) false := fun b hb => by
  refine Ev.step (f := fun _ => some false) (fun k => ?_) (Ev.now false)
  simp only [spec_BookOk.j0]
  rw [if_pos hb]
 by_cases h1 : 1 ≤ c.length ∧ c.length ≤ 4
 ·refine evPos (decide_eq_true_iff.2 (by omega)) ?_
  by_cases h2 : d.length = c.length
  ·have l0 := specBookOk_l0 c d hc h2 hr c.length 0 (by omega)
   refine Ev.step (f := fun k => spec_BookOk.l0 k ((0 : Nat) : Int) c d) (fun k => ?_) (evIs l0 ?_)
   ·simp only [spec_BookOk.j0]
    rw [if_neg (by simp [h2])]; rfl
   ·rw [okB_of h1 h2]; rfl
  ·exact evIs (fin _ (by simp; omega)) (by rw [okB_f2 h2])
 ·exact evNeg (fun h => by have := decide_eq_true_iff.1 h; omega) (evIs (fin _ rfl) (by rw [okB_f1 h1]))

theorem isBook_l1 (c : List Int) (d : List (List Int)) (n D I : Int) (row : List Int) (hr : row.length ≤ 9223372036854775807) (r : Bool) (hn : Ev (fun k => impl_isBook.l0 k n d D (wrap64 (I + 1)) c d) r) :
  ∀ (m j : Nat), j + m = row.length → Ev (fun k => impl_isBook.l1 k n d D I row (row.length : Int) (j : Int) c d) ((row.drop j).all debtOk && r)
 | 0, j => fun h => by
  rw [drop_end _ _ (by omega)]
  refine Ev.step (fun k => ?_) hn
  simp only [impl_isBook.l1]
  rw [if_neg (by omega)]
 | m + 1, j => fun h => by
  rw [drop_step _ j 0 (by omega), List.all_cons]
  have ih := isBook_l1 c d n D I row hr r hn m (j + 1) (by omega)
  have hstep : ∀ k, impl_isBook.l1 (k + 1) n d D I row (row.length : Int) (j : Int) c d = if debtOk (row.getD j 0) = true then impl_isBook.l1 k n d D I row (row.length : Int) ((j + 1 : Nat) : Int) c d else some false := by
   intro k
   simp only [impl_isBook.l1]
   rw [if_pos (by omega), if_pos (by omega), if_pos (by omega), rd_nat, w64 (show j < row.length by omega) hr]
   unfold debtOk
   by_cases a : row.getD j 0 < 0
   ·rw [if_pos a, if_neg (by rw [decide_eq_true_iff]; omega)]
   ·by_cases b : row.getD j 0 > 9
    ·rw [if_neg a, if_pos b, if_neg (by rw [decide_eq_true_iff]; omega)]
    ·rw [if_neg a, if_neg b, if_pos (by rw [decide_eq_true_iff]; omega)]
  refine Ev.step hstep ?_
  cases hb : debtOk (row.getD j 0) with
  | true => exact evPos rfl (by simpa using ih)
  | false => exact evNeg (by simp) (by simpa using Ev.now false)
theorem isBook_l0 (c : List Int) (d : List (List Int)) (hc : c.length ≤ 9223372036854775807) (hd : d.length = c.length) (hr : ∀ i, (d.getD i []).length ≤ 9223372036854775807) :
  ∀ (m i : Nat), i + m = c.length → Ev (fun k => impl_isBook.l0 k (c.length : Int) d (d.length : Int) (i : Int) c d) ((List.range' i (c.length - i)).all (rowOk c d))
 | 0, i => fun h => by
  rw [range_end _ _ (by omega)]
  refine Ev.step (f := fun _ => some true) (fun k => ?_) (Ev.now true)
  simp only [impl_isBook.l0]
  rw [if_neg (by omega)]
 | m + 1, i => fun h => by
  rw [range_step _ _ (by omega), List.all_cons]
  have ih := isBook_l0 c d hc hd hr m (i + 1) (by omega)
  rw [← w64 (show i < c.length by omega) hc] at ih
  refine Ev.step (fun k => by simp only [impl_isBook.l0]; rfl) ?_
  rw [rdR_nat]
  simp only [rd_nat]
  refine evPos (by omega) (evPos (by omega) (evPos (by omega) (evPos (by omega) ?_)))
  have fin : ∀ b : Bool, b = true → Ev (fun k => impl_isBook.j2 k (c.length : Int) (d.getD i []) d (d.length : Int) (i : Int) b c d) false := fun b hb => by
   refine Ev.step (f := fun _ => some false) (fun k => ?_) (Ev.now false)
   simp only [impl_isBook.j2]
   rw [if_pos hb]
  by_cases h1 : c.getD i 0 < 0
  ·refine evPos h1 (evIs (fin _ rfl) ?_)
   rw [rowOk_f1 (by omega), Bool.false_and]
  refine evNeg h1 ?_
  by_cases h2 : c.getD i 0 > 20
  ·refine evPos h2 (evIs (fin _ rfl) ?_)
   rw [rowOk_f1 (by omega), Bool.false_and]
  refine evNeg h2 ?_
  have h12 : 0 ≤ c.getD i 0 ∧ c.getD i 0 ≤ 20 := by omega
  by_cases h3 : (d.getD i []).length = c.length
  ·refine evPos (by omega) (evPos (by omega) ?_)
   by_cases h4 : (d.getD i []).getD i 0 = 0
   ·have l1 := isBook_l1 c d (c.length : Int) (d.length : Int) (i : Int) (d.getD i []) (hr i) _ ih (d.getD i []).length 0 (by omega)
    refine Ev.step (f := fun k => impl_isBook.l1 k (c.length : Int) d (d.length : Int) (i : Int) (d.getD i []) ((d.getD i []).length : Int) ((0 : Nat) : Int) c d) (fun k => ?_) (evIs l1 ?_)
    ·simp only [impl_isBook.j2]
     rw [if_neg (by simpa using h4)]; rfl
    ·rw [rowOk_of h12 h3 h4, List.drop_zero]
   ·exact evIs (fin _ (by simpa using h4)) (by rw [rowOk_f3 h4, Bool.false_and])
  ·exact evNeg (by omega) (evIs (fin _ rfl) (by rw [rowOk_f2 h3, Bool.false_and]))
theorem isBook_f (c : List Int) (d : List (List Int)) (hc : c.length ≤ 9223372036854775807) (hr : ∀ i, (d.getD i []).length ≤ 9223372036854775807) : Ev (fun k => impl_isBook.f k c d) (okB c d) := by
 refine Ev.congr (fun k => by unfold impl_isBook.f; rfl) ?_
 have fin : ∀ b : Bool, b = true → Ev (fun k => impl_isBook.j0 k (c.length : Int) b c d) false := fun b hb => by
  refine Ev.step (f := fun _ => some false) (fun k => ?_) (Ev.now false)
  simp only [impl_isBook.j0]
  rw [if_pos hb]
 by_cases h1 : (c.length : Int) < 1
 ·exact evPos h1 (evIs (fin _ rfl) (by rw [okB_f1 (by omega)]))
 refine evNeg h1 ?_
 by_cases h2 : (c.length : Int) > 4
 ·exact evPos h2 (evIs (fin _ rfl) (by rw [okB_f1 (by omega)]))
 refine evNeg h2 ?_
 have h12 : 1 ≤ c.length ∧ c.length ≤ 4 := by omega
 by_cases h3 : d.length = c.length
 ·have l0 := isBook_l0 c d hc h3 hr c.length 0 (by omega)
  refine Ev.step (f := fun k => impl_isBook.l0 k (c.length : Int) d (d.length : Int) ((0 : Nat) : Int) c d) (fun k => ?_) (evIs l0 ?_)
  ·simp only [impl_isBook.j0]
   rw [if_neg (by simp [h3])]; rfl
  ·rw [okB_of h12 h3]; rfl
 ·exact evIs (fin _ (by simp; omega)) (by rw [okB_f2 h3])

theorem szIntS_f (l : List Int) (a : Int) (ha : -1 ≤ a ∧ a ≤ 1048576) (hl : l.length ≤ 9223372036854775807) : laws_szIntS.f l a = some (if a - (l.length : Int) < 0 then -1 else a - (l.length : Int)) := by
 unfold laws_szIntS.f
 have w : wrap64 (a - (l.length : Int)) = a - (l.length : Int) := by unfold wrap64; omega
 rw [w]; split <;> rfl
theorem szIntSS_l0 (d : List (List Int)) (hd : d.length ≤ 9223372036854775807) (hr : ∀ i, (d.getD i []).length ≤ 9223372036854775807) :
  ∀ (m i : Nat) (a : Int), i + m = d.length → 0 ≤ a ∧ a ≤ 1048576 → ∃ t, Ev (fun k => laws_szIntSS.l0 k d a (i : Int)) t ∧ -1 ≤ t ∧ t ≤ 1048576 ∧ (0 ≤ t → ∀ j, i ≤ j → j < d.length → (d.getD j []).length ≤ 1048576)
 | 0, i, a => fun h ha => by
  refine ⟨a, Ev.step (f := fun _ => some a) (fun k => ?_) (Ev.now a), by omega, by omega, fun _ j h1 h2 => by omega⟩
  simp only [laws_szIntSS.l0]
  rw [if_neg (by omega)]
 | m + 1, i, a => fun h ha => by
  have hs : ∀ k, laws_szIntSS.l0 (k + 1) d a (i : Int) = if a - ((d.getD i []).length : Int) < 0 then some (-1) else laws_szIntSS.l0 k d (a - ((d.getD i []).length : Int)) ((i + 1 : Nat) : Int) := by
   intro k
   simp only [laws_szIntSS.l0]
   rw [if_pos (by omega), if_pos (by omega), rdR_nat, szIntS_f _ _ (by omega) (hr i), w64 (show i < d.length by omega) hd]
   simp only [Option.bind_some]
   by_cases hn : a - ((d.getD i []).length : Int) < 0
   ·rw [if_pos hn, if_pos (by omega), if_pos hn]
   ·rw [if_neg hn, if_neg hn]
  by_cases hn : a - ((d.getD i []).length : Int) < 0
  ·exact ⟨-1, Ev.step hs (evPos hn (Ev.now _)), by omega, by omega, fun h => by omega⟩
  ·obtain ⟨t, h1, h2, h3, h4⟩ := szIntSS_l0 d hd hr m (i + 1) (a - ((d.getD i []).length : Int)) (by omega) (by omega)
   refine ⟨t, Ev.step hs (evNeg hn h1), h2, h3, fun h0 j j1 j2 => ?_⟩
   by_cases e : j = i
   ·subst e; omega
   ·exact h4 h0 j (by omega) j2
theorem szBook_f (c : List Int) (d : List (List Int)) (hc : c.length ≤ 9223372036854775807) (hd : d.length ≤ 9223372036854775807) (hr : ∀ i, (d.getD i []).length ≤ 9223372036854775807) :
  ∃ t, Ev (fun k => laws_szBook.f k c d 1048576) t ∧ (¬ t < 0 → c.length ≤ 1048576 ∧ d.length ≤ 1048576 ∧ ∀ j, (d.getD j []).length ≤ 1048576) := by
 have hs : ∀ k, laws_szBook.f k c d 1048576 = if 1048576 - (c.length : Int) < 0 then some (-1) else (laws_szIntSS.f k d (1048576 - (c.length : Int))).bind fun t => if t < 0 then some (-1) else some t := by
  intro k
  unfold laws_szBook.f
  rw [szIntS_f _ _ (by omega) hc]
  simp only [Option.bind_some]
  by_cases hn : 1048576 - (c.length : Int) < 0
  ·rw [if_pos hn, if_pos (by omega), if_pos hn]
  ·rw [if_neg hn, if_neg hn]
 by_cases hn : 1048576 - (c.length : Int) < 0
 ·exact ⟨-1, Ev.congr hs (evPos hn (Ev.now _)), fun h => by omega⟩
 ·have w : wrap64 (1048576 - (c.length : Int) - (d.length : Int)) = 1048576 - (c.length : Int) - (d.length : Int) := by unfold wrap64; omega
  by_cases hm : 1048576 - (c.length : Int) - (d.length : Int) < 0
  ·refine ⟨-1, Ev.congr hs (evNeg hn (Ev.bind (a := -1) (Ev.congr (fun k => by unfold laws_szIntSS.f; rw [w]) (evPos hm (Ev.now _))) (evPos (by omega) (Ev.now _)))), fun h => by omega⟩
  ·obtain ⟨t, h1, h2, h3, h4⟩ := szIntSS_l0 d hd hr d.length 0 (1048576 - (c.length : Int) - (d.length : Int)) (by omega) (by omega)
   refine ⟨if t < 0 then -1 else t, Ev.congr hs (evNeg hn (Ev.bind (a := t) (Ev.congr (fun k => by unfold laws_szIntSS.f; rw [w, if_neg hm]; rfl) h1) ?_)), fun h => ⟨by omega, by omega, fun j => ?_⟩⟩
   ·split <;> exact Ev.now _
   ·have ht : 0 ≤ t := by split at h <;> omega
    by_cases hj : j < d.length
    ·exact h4 ht j (by omega) hj
    ·rw [List.getD_eq_getElem?_getD, List.getElem?_eq_none (by omega)]; simp

theorem fill_step {α : Type} (xs : List α) (z y : α) (i : Nat) (h : i < xs.length) : (xs.take i ++ List.replicate (xs.length - i) z).set i (xs.getD i y) = xs.take (i + 1) ++ List.replicate (xs.length - (i + 1)) z := by
 have hl : (xs.take i).length = i := by simp; omega
 rw [List.set_append_right _ _ (by omega), hl, Nat.sub_self]
 have : xs.length - i = (xs.length - (i + 1)) + 1 := by omega
 rw [this, List.replicate_succ, List.set_cons_zero, List.take_add_one, List.getElem?_eq_getElem h, List.getD_eq_getElem?_getD, List.getElem?_eq_getElem h, List.append_assoc]
 rfl
theorem toIntS_l0 (l : List Int) (hl : l.length ≤ 1048576) : ∀ (m i : Nat), i + m = l.length → Ev (fun k => laws_toIntS.l0 k l (l.take i ++ List.replicate (l.length - i) 0) (i : Int)) l
 | 0, i => fun h => by
  refine Ev.step (f := fun _ => some l) (fun k => ?_) (Ev.now l)
  simp only [laws_toIntS.l0]
  rw [if_neg (by omega), List.take_of_length_le (by omega), show l.length - i = 0 by omega]
  simp
 | m + 1, i => fun h => by
  refine Ev.step (fun k => ?_) (toIntS_l0 l hl m (i + 1) (by omega))
  simp only [laws_toIntS.l0]
  rw [if_pos (by omega), if_pos (by omega), if_pos (by simp; omega), rd_nat, Int.toNat_natCast, fill_step _ _ _ _ (by omega), w64 (show i < l.length by omega) (by omega)]
theorem toIntS_f (l : List Int) (hl : l.length ≤ 1048576) : Ev (fun k => laws_toIntS.f k l) l := by
 refine Ev.congr (fun k => ?_) (toIntS_l0 l hl l.length 0 (by omega))
 unfold laws_toIntS.f
 rw [if_pos (by omega), if_pos (by omega)]
 rfl
theorem toIntSS_l0 (l : List (List Int)) (hl : l.length ≤ 1048576) (hr : ∀ i, (l.getD i []).length ≤ 1048576) : ∀ (m i : Nat), i + m = l.length → Ev (fun k => laws_toIntSS.l0 k l (l.take i ++ List.replicate (l.length - i) []) (i : Int)) l
 | 0, i => fun h => by
  refine Ev.step (f := fun _ => some l) (fun k => ?_) (Ev.now l)
  simp only [laws_toIntSS.l0]
  rw [if_neg (by omega), List.take_of_length_le (by omega), show l.length - i = 0 by omega]
  simp
 | m + 1, i => fun h => by
  refine Ev.step (fun k => ?_) (Ev.bind (f := fun k t => laws_toIntSS.l0 k l ((l.take i ++ List.replicate (l.length - i) []).set i t) ((i + 1 : Nat) : Int)) (toIntS_f (l.getD i []) (hr i)) ?_)
  ·simp only [laws_toIntSS.l0]
   rw [if_pos (by omega), if_pos (by omega), rdR_nat, w64 (show i < l.length by omega) (by omega)]
   congr 1
   funext t
   rw [if_pos (by simp; omega), Int.toNat_natCast]
  ·rw [fill_step _ _ _ _ (by omega)]
   exact toIntSS_l0 l hl hr m (i + 1) (by omega)
theorem toIntSS_f (l : List (List Int)) (hl : l.length ≤ 1048576) (hr : ∀ i, (l.getD i []).length ≤ 1048576) : Ev (fun k => laws_toIntSS.f k l) l := by
 refine Ev.congr (fun k => ?_) (toIntSS_l0 l hl hr l.length 0 (by omega))
 unfold laws_toIntSS.f
 rw [if_pos (by omega), if_pos (by omega)]
 rfl
theorem toBook_f (c : List Int) (d : List (List Int)) (hc : c.length ≤ 1048576) (hd : d.length ≤ 1048576) (hr : ∀ i, (d.getD i []).length ≤ 1048576) : Ev (fun k => laws_toBook.f k c d) (c, d) :=
 Ev.congr (fun k => by unfold laws_toBook.f; rfl) (Ev.bind (toIntS_f c hc) (Ev.bind (toIntSS_f d hd hr) (Ev.now (c, d))))

theorem eqIntS_l0 (l : List Int) (hl : l.length ≤ 9223372036854775807) : ∀ (m i : Nat), i + m = l.length → Ev (fun k => laws_eqIntS.l0 k l l (i : Int)) true
 | 0, i => fun h => by
  refine Ev.step (f := fun _ => some true) (fun k => ?_) (Ev.now true)
  simp only [laws_eqIntS.l0]
  rw [if_neg (by omega)]
 | m + 1, i => fun h => by
  refine Ev.step (fun k => ?_) (eqIntS_l0 l hl m (i + 1) (by omega))
  simp only [laws_eqIntS.l0]
  rw [if_pos (by omega), if_pos (by omega), if_pos (by omega), if_pos trivial, w64 (show i < l.length by omega) hl]
theorem eqIntS_f (l : List Int) (hl : l.length ≤ 9223372036854775807) : Ev (fun k => laws_eqIntS.f k l l) true := by
 refine Ev.congr (fun k => ?_) (eqIntS_l0 l hl l.length 0 (by omega))
 unfold laws_eqIntS.f
 rw [if_pos rfl]; rfl

theorem eqIntSS_l0 (l : List (List Int)) (hl : l.length ≤ 9223372036854775807) (hr : ∀ i, (l.getD i []).length ≤ 9223372036854775807) : ∀ (m i : Nat), i + m = l.length → Ev (fun k => laws_eqIntSS.l0 k l l (i : Int)) true
 | 0, i => fun h => by
  refine Ev.step (f := fun _ => some true) (fun k => ?_) (Ev.now true)
  simp only [laws_eqIntSS.l0]
  rw [if_neg (by omega)]
 | m + 1, i => fun h => by
  have ih := eqIntSS_l0 l hl hr m (i + 1) (by omega)
  refine Ev.step (f := fun k => (laws_eqIntS.f k (l.getD i []) (l.getD i [])).bind fun t => if t = true then laws_eqIntSS.l0 k l l ((i + 1 : Nat) : Int) else some false) (fun k => ?_) (Ev.bind (eqIntS_f _ (hr i)) (evPos rfl ih))
  simp only [laws_eqIntSS.l0]
  rw [if_pos (by omega), if_pos (by omega), if_pos (by omega), rdR_nat, w64 (show i < l.length by omega) hl]
theorem eqIntSS_f (l : List (List Int)) (hl : l.length ≤ 9223372036854775807) (hr : ∀ i, (l.getD i []).length ≤ 9223372036854775807) : Ev (fun k => laws_eqIntSS.f k l l) true := by
 refine Ev.congr (fun k => ?_) (eqIntSS_l0 l hl hr l.length 0 (by omega))
 unfold laws_eqIntSS.f
 rw [if_pos rfl]; rfl
theorem eqBook_f (c : List Int) (d : List (List Int)) (hc : c.length ≤ 9223372036854775807) (hd : d.length ≤ 9223372036854775807) (hr : ∀ i, (d.getD i []).length ≤ 9223372036854775807) : Ev (fun k => laws_eqBook.f k c d c d) true :=
 Ev.congr (fun k => by unfold laws_eqBook.f; rfl) (Ev.bind (eqIntS_f c hc) (evPos rfl (Ev.bind (eqIntSS_f d hd hr) (evPos rfl (Ev.now _)))))

/-- The numbers from a on. -/
def seqF (a : Int) (n : Nat) : List Int := (List.range n).map fun (j : Nat) => a + (j : Int)
theorem seqF_succ (a : Int) (n : Nat) : seqF a (n + 1) = seqF a n ++ [a + (n : Int)] := by unfold seqF; rw [rmap_succ]
theorem markIntS_l0 (l : List Int) (a : Int) (ha : 0 ≤ a ∧ a ≤ 4000000000000000000) (hl : l.length ≤ 1048576) :
  ∀ m i, i + m = l.length → Ev (fun k => laws_markIntS.l0 k (seqF a i ++ l.drop i) (a + (i : Int)) (i : Int)) (a + (l.length : Int), seqF a l.length)
 | 0, i => fun h => by
  refine Ev.step (f := fun _ => some (a + (l.length : Int), seqF a l.length)) (fun k => ?_) (Ev.now _)
  simp only [laws_markIntS.l0]
  have hi : i = l.length := by omega
  subst hi
  rw [if_neg (by simp [seqF]), List.drop_length, List.append_nil]
 | m + 1, i => fun h => by
  refine Ev.step (fun k => ?_) (markIntS_l0 l a ha hl m (i + 1) (by omega))
  simp only [laws_markIntS.l0]
  have w : wrap64 (a + (i : Int) + 1) = a + ((i + 1 : Nat) : Int) := by unfold wrap64; omega
  rw [if_pos (by simp [seqF]; omega), if_pos (by omega), Int.toNat_natCast, drop_step l i 0 (by omega), mid_set _ _ _ _ _ (by simp [seqF]), seqF_succ, w, w64 (show i < l.length by omega) (by omega), List.append_assoc]; rfl
theorem markIntS_f (l : List Int) (a : Int) (ha : 0 ≤ a ∧ a ≤ 4000000000000000000) (hl : l.length ≤ 1048576) : Ev (fun k => laws_markIntS.f k l a) (a + (l.length : Int), seqF a l.length) :=
 Ev.congr (fun k => by unfold laws_markIntS.f; simp [seqF]) (markIntS_l0 l a ha hl l.length 0 (by omega))
theorem heldIntS_l0 (a : Int) (n : Nat) (ha : 0 ≤ a ∧ a ≤ 4000000000000000000) (hn : n ≤ 1048576) :
  ∀ m i, i + m = n → Ev (fun k => laws_heldIntS.l0 k (seqF a n) (a + (i : Int)) (i : Int)) (a + (n : Int))
 | 0, i => fun h => by
  refine Ev.step (f := fun _ => some (a + (n : Int))) (fun k => ?_) (Ev.now _)
  simp only [laws_heldIntS.l0]
  have hi : i = n := by omega
  subst hi
  rw [if_neg (by simp [seqF])]
 | m + 1, i => fun h => by
  refine Ev.step (fun k => ?_) (heldIntS_l0 a n ha hn m (i + 1) (by omega))
  simp only [laws_heldIntS.l0]
  have w : wrap64 (a + (i : Int) + 1) = a + ((i + 1 : Nat) : Int) := by unfold wrap64; omega
  rw [if_pos (by simp [seqF]; omega), if_pos (by omega), rd_nat, if_pos (by unfold seqF; rw [rmap_get _ _ _ (by omega)]), w, w64 (show i < n by omega) (by omega)]
theorem heldIntS_f (a : Int) (n : Nat) (ha : 0 ≤ a ∧ a ≤ 4000000000000000000) (hn : n ≤ 1048576) : Ev (fun k => laws_heldIntS.f k (seqF a n) a) (a + (n : Int)) :=
 Ev.congr (fun k => by unfold laws_heldIntS.f; simp) (heldIntS_l0 a n ha hn n 0 (by omega))
theorem markIntSS_l0 (n : Nat) (hn : n ≤ 1048576) : ∀ (m i : Nat) (x : List (List Int)) (a : Int), x.length = n → (∀ j, (x.getD j []).length ≤ 1048576) → i + m = n → 0 ≤ a ∧ a ≤ 1048576 * (i + 2 : Int) →
  ∃ t r, Ev (fun k => laws_markIntSS.l0 k x a (i : Int)) (t, r) ∧ 0 ≤ t
 | 0, i, x, a => fun hx hr h ha => by
  refine ⟨a, x, Ev.step (f := fun _ => some (a, x)) (fun k => ?_) (Ev.now _), ha.1⟩
  simp only [laws_markIntSS.l0]
  rw [if_neg (by omega)]
 | m + 1, i, x, a => fun hx hr h ha => by
  have hm := markIntS_f (x.getD i []) a (by omega) (hr i)
  have hri := hr i
  obtain ⟨t, r, h1, h2⟩ := markIntSS_l0 n hn m (i + 1) (x.set i (seqF a (x.getD i []).length)) (a + ((x.getD i []).length : Int)) (by simp; omega)
   (fun j => by
    rw [List.getD_eq_getElem?_getD, List.getElem?_set]
    by_cases e : i = j
    ·subst e; rw [if_pos rfl, if_pos (by omega)]; simpa [seqF] using hri
    ·rw [if_neg e, ← List.getD_eq_getElem?_getD]; exact hr j)
   (by omega) (by omega)
  refine ⟨t, r, Ev.step (f := fun k => (laws_markIntS.f k (x.getD i []) a).bind fun bt => laws_markIntSS.l0 k (x.set i bt.2) bt.1 ((i + 1 : Nat) : Int)) (fun k => ?_) (Ev.bind hm h1), h2⟩
  simp only [laws_markIntSS.l0]
  rw [if_pos (by omega), if_pos (by omega), rdR_nat, Int.toNat_natCast, w64 (show i < n by omega) (by omega)]
theorem markSS_from (d : List (List Int)) (hd : d.length ≤ 1048576) (hr : ∀ j, (d.getD j []).length ≤ 1048576) (a : Int) (ha : 0 ≤ a ∧ a ≤ 2097152) : ∃ t r, Ev (fun k => laws_markIntSS.l0 k d a 0) (t, r) ∧ 0 ≤ t :=
 markIntSS_l0 d.length hd d.length 0 d a rfl hr (by omega) (by omega)
theorem markBook_f (c : List Int) (d : List (List Int)) (hc : c.length ≤ 1048576) (hd : d.length ≤ 1048576) (hr : ∀ j, (d.getD j []).length ≤ 1048576) : ∃ t, Ev (fun k => laws_markBook.f k c d 1) t ∧ ¬ t < 0 := by
 have h1 := markIntS_f c 1 (by omega) hc
 -- one bound for all that follows
 obtain ⟨t, r, h2, h3⟩ : ∃ t r, Ev (fun k => laws_markIntSS.l0 k d (1 + (c.length : Int)) 0) (t, r) ∧ 0 ≤ t := markSS_from d hd hr (1 + (c.length : Int)) (by omega)
 exact ⟨t, Ev.congr (fun k => by unfold laws_markBook.f; rfl) (Ev.bind h1 (Ev.bind (show Ev (fun k => laws_markIntSS.f k d (1 + (c.length : Int))) (t, r) from h2) (Ev.now t))), by omega⟩

/-- The rows' numbers from a on. -/
def seqSS : Int → List (List Int) → List (List Int)
 | _, [] => []
 | a, r :: rs => seqF a r.length :: seqSS (a + (r.length : Int)) rs
def totSS : List (List Int) → Nat
 | [] => 0
 | r :: rs => r.length + totSS rs
theorem get_mid (a : List (List Int)) (v : List Int) (b : List (List Int)) : (a ++ v :: b).getD a.length [] = v := by
 rw [List.getD_eq_getElem?_getD, List.getElem?_append_right (by omega), Nat.sub_self]; rfl
theorem set_mid (a : List (List Int)) (v u : List Int) (b : List (List Int)) : (a ++ v :: b).set a.length u = (a ++ [u]) ++ b := by
 rw [List.set_append_right _ _ (by omega), Nat.sub_self, List.set_cons_zero, List.append_assoc]; rfl
theorem markSS_l0 : ∀ (rs done : List (List Int)) (a : Int), done.length + rs.length ≤ 1048576 → (∀ r ∈ rs, r.length ≤ 1048576) → 0 ≤ a → a + (totSS rs : Int) ≤ 4000000000000000000 →
  Ev (fun k => laws_markIntSS.l0 k (done ++ rs) a (done.length : Int)) (a + (totSS rs : Int), done ++ seqSS a rs)
 | [], done, a => fun hl hr h0 h1 => by
  refine Ev.step (f := fun _ => some (a, done ++ [])) (fun k => ?_) (by simp only [totSS, seqSS]; rw [show a + ((0 : Nat) : Int) = a by omega]; exact Ev.now _)
  rw [laws_markIntSS.l0, List.append_nil, if_neg (by omega)]
 | r :: rs, done, a => fun hl hr h0 h1 => by
  have hrl := hr r List.mem_cons_self
  simp only [totSS, List.length_cons] at h1 hl
  have hm := markIntS_f r a (by omega) hrl
  have ih := markSS_l0 rs (done ++ [seqF a r.length]) (a + (r.length : Int)) (by simp; omega) (fun x hx => hr x (List.mem_cons_of_mem _ hx)) (by omega) (by omega)
  have e1 : (a + (r.length : Int)) + (totSS rs : Int) = a + (totSS (r :: rs) : Int) := by simp only [totSS]; omega
  have e2 : (done ++ [seqF a r.length]) ++ seqSS (a + (r.length : Int)) rs = done ++ seqSS a (r :: rs) := by rw [List.append_assoc]; rfl
  have e3 : (((done ++ [seqF a r.length]).length : Nat) : Int) = wrap64 ((done.length : Int) + 1) := by rw [w64 (show done.length < 2000000 by omega) (by omega)]; simp
  rw [e1, e2, e3] at ih
  refine Ev.step (f := fun k => (laws_markIntS.f k r a).bind fun bt => laws_markIntSS.l0 k ((done ++ r :: rs).set done.length bt.2) bt.1 (wrap64 ((done.length : Int) + 1))) (fun k => ?_) (Ev.bind hm (by show Ev (fun k => laws_markIntSS.l0 k ((done ++ r :: rs).set done.length (seqF a r.length)) (a + (r.length : Int)) (wrap64 ((done.length : Int) + 1))) _; rw [set_mid]; exact ih))
  simp only [laws_markIntSS.l0]
  rw [if_pos (by simp; omega), if_pos (by omega), rdR_nat, get_mid, Int.toNat_natCast]
theorem markSS_f (rs : List (List Int)) (a : Int) (hl : rs.length ≤ 1048576) (hr : ∀ r ∈ rs, r.length ≤ 1048576) (h0 : 0 ≤ a) (h1 : a + (totSS rs : Int) ≤ 4000000000000000000) :
  Ev (fun k => laws_markIntSS.f k rs a) (a + (totSS rs : Int), seqSS a rs) :=
 markSS_l0 rs [] a (by simpa using hl) hr h0 h1
theorem heldSS_l0 : ∀ (rs done : List (List Int)) (a : Int), done.length + rs.length ≤ 1048576 → (∀ r ∈ rs, r.length ≤ 1048576) → 0 ≤ a → a + (totSS rs : Int) ≤ 4000000000000000000 →
  Ev (fun k => laws_heldIntSS.l0 k (done ++ seqSS a rs) a (done.length : Int)) (a + (totSS rs : Int))
 | [], done, a => fun hl hr h0 h1 => by
  refine Ev.step (f := fun _ => some a) (fun k => ?_) (by simp only [totSS]; rw [show a + ((0 : Nat) : Int) = a by omega]; exact Ev.now _)
  show laws_heldIntSS.l0 (k + 1) (done ++ []) a (done.length : Int) = _
  rw [laws_heldIntSS.l0, List.append_nil, if_neg (by omega)]
 | r :: rs, done, a => fun hl hr h0 h1 => by
  have hrl := hr r List.mem_cons_self
  simp only [totSS, List.length_cons] at h1 hl
  have hm := heldIntS_f a r.length (by omega) hrl
  have ih := heldSS_l0 rs (done ++ [seqF a r.length]) (a + (r.length : Int)) (by simp; omega) (fun x hx => hr x (List.mem_cons_of_mem _ hx)) (by omega) (by omega)
  have e0 : seqSS a (r :: rs) = seqF a r.length :: seqSS (a + (r.length : Int)) rs := rfl
  rw [e0]
  have e1 : (a + (r.length : Int)) + (totSS rs : Int) = a + (totSS (r :: rs) : Int) := by simp only [totSS]; omega
  have e2 : (done ++ [seqF a r.length]) ++ seqSS (a + (r.length : Int)) rs = done ++ seqF a r.length :: seqSS (a + (r.length : Int)) rs := by rw [List.append_assoc]; rfl
  have e3 : (((done ++ [seqF a r.length]).length : Nat) : Int) = wrap64 ((done.length : Int) + 1) := by rw [w64 (show done.length < 2000000 by omega) (by omega)]; simp
  rw [e1, e2, e3] at ih
  refine Ev.step (f := fun k => (laws_heldIntS.f k (seqF a r.length) a).bind fun t => if t < 0 then some (-1) else laws_heldIntSS.l0 k (done ++ seqF a r.length :: seqSS (a + (r.length : Int)) rs) t (wrap64 ((done.length : Int) + 1))) (fun k => ?_) (Ev.bind hm (evNeg (by omega) ih))
  rw [laws_heldIntSS.l0, if_pos (by simp; omega), if_pos (by omega), rdR_nat, get_mid]
theorem heldSS_f (rs : List (List Int)) (a : Int) (hl : rs.length ≤ 1048576) (hr : ∀ r ∈ rs, r.length ≤ 1048576) (h0 : 0 ≤ a) (h1 : a + (totSS rs : Int) ≤ 4000000000000000000) :
  Ev (fun k => laws_heldIntSS.f k (seqSS a rs) a) (a + (totSS rs : Int)) :=
 heldSS_l0 rs [] a (by simpa using hl) hr h0 h1
theorem totSS_le {b : Nat} : ∀ (rs : List (List Int)), (∀ r ∈ rs, r.length ≤ b) → totSS rs ≤ b * rs.length
 | [], _ => by simp [totSS]
 | r :: rs, h => by
  have h1 := h r List.mem_cons_self
  have h2 := totSS_le rs (fun x hx => h x (List.mem_cons_of_mem _ hx))
  simp only [totSS, List.length_cons, Nat.mul_succ]
  omega
theorem mem_bound {b : Nat} {rs : List (List Int)} (h : ∀ i, (rs.getD i []).length ≤ b) : ∀ r ∈ rs, r.length ≤ b := by
 intro r hr
 obtain ⟨i, hi, e⟩ := List.mem_iff_getElem.1 hr
 have := h i
 rw [List.getD_eq_getElem?_getD, List.getElem?_eq_getElem hi] at this
 rw [← e]; exact this

theorem heldBook_f (V0 : List Int) (V1 : List (List Int)) (h0 : V0.length ≤ 1000) (h1 : V1.length ≤ 1000) (hr : ∀ r ∈ V1, r.length ≤ 1000) :
  Ev (fun k => laws_heldBook.f k (seqF 1 V0.length) (seqSS (1 + (V0.length : Int)) V1) 1) (1 + (V0.length : Int) + (totSS V1 : Int)) := by
 have gt := totSS_le V1 hr
 have hb : 1000 * V1.length ≤ 1000000 := by omega
 have a := heldIntS_f 1 V0.length (by omega) (by omega)
 have b := heldSS_f V1 (1 + (V0.length : Int)) (by omega) (fun r h => by have := hr r h; omega) (by omega) (by omega)
 have n1 : ¬ ((1 : Int) + (V0.length : Int) < 0) := by omega
 have n2 : ¬ ((1 : Int) + (V0.length : Int) + (totSS V1 : Int) < 0) := by omega
 refine Ev.congr (fun k => by unfold laws_heldBook.f; rfl) (Ev.bind a ?_)
 refine evNeg n1 ?_
 refine Ev.bind b ?_
 exact evNeg n2 (Ev.now _)

theorem pN_few (E : Nat → Nat → Bool) (n : Nat) (hn : n ≤ 4) : ∀ m p, (Circ.pN E n m p).length ≤ 5 ^ m
 | 0, p => by simp [Circ.pN]
 | m + 1, p => by
  have hf : ∀ f : Nat → List (List Nat), (∀ j, (f j).length ≤ 5 ^ m) → ∀ q j, (Circ.fl f q j).length ≤ q * 5 ^ m := fun f h q => by
   induction q with
   | zero => intro j; simp [Circ.fl]
   | succ q ih =>
    intro j
    rw [Circ.fl, List.length_append, Nat.succ_mul]
    have := h j
    have := ih (j + 1)
    omega
  have h1 := hf (fun j => if (Nat.blt (p.getD 0 0) j && E (p.getD (p.length - 1) 0) j && !p.contains j) = true then Circ.pN E n m (p ++ [j]) else []) (fun j => by
   split
   ·exact pN_few E n hn m _
   ·simp) n 0
  have h2 : n * 5 ^ m ≤ 4 * 5 ^ m := Nat.mul_le_mul_right _ hn
  have h3 : 0 < 5 ^ m := Nat.pow_pos (by decide)
  rw [Circ.pN, List.length_append, Nat.pow_succ]
  have h4 : (if (Nat.ble 2 p.length && E (p.getD (p.length - 1) 0) (p.getD 0 0)) = true then [p] else []).length ≤ 1 := by split <;> simp
  omega
theorem Bk.bt {c : List Int} {d : List (List Int)} (B : Bk c d) : Circ.Bt d c.length := ⟨B.n1, B.n4, B.hd, B.hr, B.hz⟩
theorem before_l0 (a b : List Int) (hl : a.length ≤ 1000) (he : a.length = b.length) : ∀ (m i : Nat), i + m = a.length → Ev (fun k => spec_l3Before.l0 k a b (i : Int)) (Circ.lexI (a.drop i) (b.drop i))
 | 0, i, h => by
  have e : Circ.lexI (a.drop i) (b.drop i) = false := by
   rw [List.drop_eq_nil_of_le (by omega)]
   cases b.drop i <;> rfl
  rw [e]
  exact Ev.step (fun k => by rw [spec_l3Before.l0]) (evNeg (by omega) (Ev.now _))
 | m + 1, i, h => by
  rw [Circ.lexI_drop a b i (by omega) (by omega)]
  refine Ev.step (fun k => by rw [spec_l3Before.l0]) (evPos (by omega) (evPos (by omega) (evPos (by omega) ?_)))
  rw [rd_nat, rd_nat]
  by_cases e : a.getD i 0 = b.getD i 0
  ·rw [if_pos e]
   refine evPos e ?_
   rw [w64 (show i < a.length by omega) (by omega)]
   exact before_l0 a b hl he m (i + 1) (by omega)
  ·rw [if_neg e]
   exact evNeg e (Ev.now _)
theorem before_f (a b : List Int) (ha : a.length ≤ 1000) (hb : b.length ≤ 1000) : Ev (fun k => spec_l3Before.f k a b) (Circ.befI a b) := by
 refine Ev.congr (fun k => by unfold spec_l3Before.f; rfl) ?_
 unfold Circ.befI
 by_cases e : a.length = b.length
 ·rw [if_pos e]
  exact evPos (by omega) (before_l0 a b ha e a.length 0 (by omega))
 ·rw [if_neg e]
  refine evNeg (by omega) (evIs (Ev.now _) ?_)
  rw [decide_eq_decide]; omega
theorem rowsD (xs : List (List Int)) (j : Nat) : rd_L1 xs (j : Int) = xs.getD j [] := by unfold rd_L1; rw [Int.toNat_natCast]
theorem sink_l2 {i : Nat} (hi : i ≤ 1000) {r : List (List Int)} : ∀ (j : Nat) (xs : List (List Int)), j < xs.length → (∀ x ∈ xs, x.length ≤ 1000) → xs.length ≤ 1000 → Ev (fun k => spec_CirclesOf.l1 k (Circ.sinkI j xs) ((i + 1 : Nat) : Int)) r → Ev (fun k => spec_CirclesOf.l2 k xs (i : Int) (j : Int)) r
 | 0, xs, hj, hx, hl, e => by
  refine Ev.step (fun k => by rw [spec_CirclesOf.l2]) (evNeg (by omega) ?_)
  rw [w64 (show i < i + 1 by omega) (by omega)]
  exact e
 | j + 1, xs, hj, hx, hl, e => by
  have hw : wrap64 (((j + 1 : Nat) : Int) - 1) = (j : Int) := by unfold wrap64; omega
  have h1 := Circ.getD_in (P := fun y => y.length ≤ 1000) hj hx
  have h2 := Circ.getD_in (P := fun y => y.length ≤ 1000) (show j < xs.length by omega) hx
  have hb := before_f _ _ h1 h2
  refine Ev.step (fun k => by rw [spec_CirclesOf.l2]) (evPos (by omega) (evPos (by omega) (evPos (by omega) ?_)))
  rw [hw, rowsD, rowsD]
  refine evPos (by omega) (evPos (by omega) (Ev.bind hb ?_))
  rw [Circ.sinkI] at e
  by_cases hc : Circ.befI (xs.getD (j + 1) []) (xs.getD j []) = true
  ·rw [if_pos hc] at e
   refine evPos hc ?_
   rw [Int.toNat_natCast, Int.toNat_natCast]
   show Ev (fun k => spec_CirclesOf.l2 k (Circ.swp xs (j + 1) j []) (i : Int) (j : Int)) r
   exact sink_l2 hi j _ (by rw [Circ.swp_len]; omega) (Circ.swp_mem hj (by omega) hx) (by rw [Circ.swp_len]; exact hl) e
  ·rw [if_neg hc] at e
   refine evNeg hc ?_
   rw [w64 (show i < i + 1 by omega) (by omega)]
   exact e
theorem sinkI_mem {P : List Int → Prop} : ∀ (j : Nat) (xs : List (List Int)), j < xs.length → (∀ x ∈ xs, P x) → ∀ x ∈ Circ.sinkI j xs, P x
 | 0, xs, _, h => h
 | j + 1, xs, hj, h => by
  rw [Circ.sinkI]
  split
  ·exact sinkI_mem j _ (by rw [Circ.swp_len]; omega) (Circ.swp_mem hj (by omega) h)
  ·exact h
theorem sort_l1 : ∀ (m i : Nat) (xs : List (List Int)), 1 ≤ i → m = xs.length - i → (∀ x ∈ xs, x.length ≤ 1000) → xs.length ≤ 1000 → Ev (fun k => spec_CirclesOf.l1 k xs (i : Int)) (Circ.sortI m i xs)
 | 0, i, xs, h1, hm, hx, hl => by
  show Ev (fun k => spec_CirclesOf.l1 k xs (i : Int)) xs
  exact Ev.step (fun k => by rw [spec_CirclesOf.l1]) (evNeg (by omega) (Ev.now _))
 | m + 1, i, xs, h1, hm, hx, hl => by
  refine Ev.step (fun k => by rw [spec_CirclesOf.l1]) (evPos (by omega) ?_)
  refine sink_l2 (by omega) i xs (by omega) hx hl ?_
  rw [Circ.sortI]
  exact sort_l1 m (i + 1) _ (by omega) (by rw [Circ.sinkI_len]; omega) (sinkI_mem i xs (by omega) hx) (by rw [Circ.sinkI_len]; exact hl)
/-- Of bank j, the path asked bank by bank. -/
theorem path_l1 {c : List Int} {d : List (List Int)} {p : List Nat} (hl : p.length ≤ 10) {o : List (List Int)} {last : Int} {j : Nat} {r : List (List Int)}
  (h1 : j ∈ p → Ev (fun k => spec_l3Paths.l0 k (Circ.toI p) o last (wrap64 ((j : Int) + 1)) c d) r)
  (h2 : j ∉ p → Ev (fun k => (some (([] : List Int) : List Int)).bind fun y148 => (if y148.length + (Circ.toI p).length < 17592186044416 then ((some (y148 ++ (Circ.toI p) : List Int)).bind fun y151 => ((some (([(j : Int)] : List Int) : List Int)).bind fun y154 => (if y151.length + y154.length < 17592186044416 then ((spec_l3Paths.f k c d (y151 ++ y154)).bind fun t160 => (if o.length + t160.length < 5864062014805 then (spec_l3Paths.l0 k (Circ.toI p) (o ++ t160) last (wrap64 ((j : Int) + 1)) c d) else (none))) else (none)))) else (none))) r) :
  ∀ (m i : Nat), i + m = p.length → (∀ t, t < i → p.getD t 0 ≠ j) → Ev (fun k => spec_l3Paths.l1 k (Circ.toI p) o last (j : Int) (i : Int) c d) r
 | 0, i, hi, hn => by
  have hlen := Circ.toI_len p
  have hj : j ∉ p := fun hm => by
   obtain ⟨t, ht, e⟩ := List.mem_iff_getElem.1 hm
   exact hn t (by omega) (by rw [List.getD_eq_getElem?_getD, List.getElem?_eq_getElem ht]; exact e)
  exact Ev.step (fun k => by rw [spec_l3Paths.l1]) (evNeg (by omega) (h2 hj))
 | m + 1, i, hi, hn => by
  have hlen := Circ.toI_len p
  refine Ev.step (fun k => by rw [spec_l3Paths.l1]) (evPos (by omega) (evPos (by omega) ?_))
  rw [rd_nat, Circ.toI_get]
  by_cases e : p.getD i 0 = j
  ·refine evPos (by omega) (h1 ?_)
   rw [← e]
   exact Circ.getD_n (by omega)
  ·refine evNeg (by omega) ?_
   rw [w64 (show i < p.length by omega) (by omega)]
   exact path_l1 hl h1 h2 m (i + 1) (by omega) (fun t ht => by
    by_cases e2 : t = i
    ·rw [e2]; exact e
    ·exact hn t (by omega))
theorem path_go {c : List Int} {d : List (List Int)} {p : List Int} {o t : List (List Int)} {last : Int} {j : Int} {r : List (List Int)} (l1 : ([] : List Int).length + p.length < 17592186044416) (l2 : ([] ++ p : List Int).length + ([j] : List Int).length < 17592186044416)
  (e : Ev (fun k => spec_l3Paths.f k c d (p ++ [j])) t) (l3 : o.length + t.length < 5864062014805) (h : Ev (fun k => spec_l3Paths.l0 k p (o ++ t) last (wrap64 (j + 1)) c d) r) :
  Ev (fun k => (some (([] : List Int) : List Int)).bind fun y148 => (if y148.length + p.length < 17592186044416 then ((some (y148 ++ p : List Int)).bind fun y151 => ((some (([j] : List Int) : List Int)).bind fun y154 => (if y151.length + y154.length < 17592186044416 then ((spec_l3Paths.f k c d (y151 ++ y154)).bind fun t160 => (if o.length + t160.length < 5864062014805 then (spec_l3Paths.l0 k p (o ++ t160) last (wrap64 (j + 1)) c d) else (none))) else (none)))) else (none))) r := by
 simp only [Option.bind_some]
 refine evPos l1 (evPos l2 ?_)
 rw [List.nil_append]
 exact Ev.bind e (evPos l3 h)
theorem paths_l0 {c : List Int} {d : List (List Int)} (B : Bk c d) {m : Nat} {p : List Nat} (hp : p ≠ []) (hl : p.length ≤ 4) (hx : ∀ x ∈ p, x < c.length)
  (hf : ∀ x, x < c.length → x ∉ p → Ev (fun k => spec_l3Paths.f k c d (Circ.toI (p ++ [x]))) ((Circ.pN (Circ.Ed d) c.length m (p ++ [x])).map Circ.toI)) (hm : m ≤ 4) :
  ∀ (q j : Nat) (o : List (List Int)), j + q = c.length → p.getD 0 0 < j → o.length + 1000 * q ≤ 10000 → Ev (fun k => spec_l3Paths.l0 k (Circ.toI p) o ((p.getD (p.length - 1) 0 : Nat) : Int) (j : Int) c d) (o ++ (Circ.fl (fun j => if (Nat.blt (p.getD 0 0) j && Circ.Ed d (p.getD (p.length - 1) 0) j && !p.contains j) = true then Circ.pN (Circ.Ed d) c.length m (p ++ [j]) else []) q j).map Circ.toI) := by
 intro q
 induction q with
 | zero =>
  intro j o hj hj0 ho
  rw [Circ.fl, List.map_nil, List.append_nil]
  exact Ev.step (fun k => by rw [spec_l3Paths.l0]) (evNeg (by omega) (Ev.now _))
 | succ q ihq =>
  intro j o hj hj0 ho
  have a1 : j + 1 + q = c.length := by omega
  have a2 : p.getD 0 0 < j + 1 := by omega
  have ih := fun o' (h : o'.length + 1000 * q ≤ 10000) => ihq (j + 1) o' a1 a2 h
  clear ihq
  have n4 := B.n4
  have hd := B.hd
  have h0 : 0 < p.length := List.length_pos_iff.2 hp
  have hlast := hx _ (Circ.getD_n (p := p) (i := p.length - 1) (by omega))
  have hr := B.hr _ hlast
  refine Ev.step (fun k => by rw [spec_l3Paths.l0]) (evPos (by omega) (evPos (by omega) (evPos (by omega) (evPos (by omega) ?_))))
  rw [rowsD, rd_nat, Circ.fl]
  refine evPos (by omega) ?_
  have few : (Circ.pN (Circ.Ed d) c.length m (p ++ [j])).length ≤ 625 := Nat.le_trans (pN_few (Circ.Ed d) c.length n4 m (p ++ [j])) (Nat.le_trans (Nat.pow_le_pow_right (by decide) hm) (by decide))
  have hE : Circ.Ed d (p.getD (p.length - 1) 0) j = decide ((d.getD (p.getD (p.length - 1) 0) []).getD j 0 ≠ 0) := rfl
  have hb : Nat.blt (p.getD 0 0) j = true := Nat.blt_eq.mpr hj0
  by_cases hv : (d.getD (p.getD (p.length - 1) 0) []).getD j 0 = 0
  ·refine evPos hv ?_
   rw [if_neg (by rw [hb, hE, decide_eq_false (by simpa using hv)]; simp), List.nil_append, w64 (show j < c.length by omega) (by omega)]
   exact ih o (by omega)
  ·refine evNeg hv (path_l1 (by omega) (fun hm => ?_) (fun hm => ?_) p.length 0 (by omega) (fun t h => by omega))
   ·rw [if_neg (by rw [List.contains_iff_mem.2 hm]; simp), List.nil_append, w64 (show j < c.length by omega) (by omega)]
    exact ih o (by omega)
   ·have hc : p.contains j = false := by
     cases hc : p.contains j with
     | false => rfl
     | true => exact absurd (List.contains_iff_mem.1 hc) hm
    rw [if_pos (by rw [hb, hE, decide_eq_true (by simpa using hv), hc]; rfl), List.map_append, ← List.append_assoc]
    have e := hf j (by omega) hm
    rw [Circ.toI_snoc] at e
    have hlen := Circ.toI_len p
    have l1 : ([] : List Int).length + (Circ.toI p).length < 17592186044416 := by rw [hlen, List.length_nil]; omega
    have l2 : ([] ++ Circ.toI p : List Int).length + ([(j : Int)] : List Int).length < 17592186044416 := by rw [List.nil_append, hlen, List.length_singleton]; omega
    have l3 : o.length + ((Circ.pN (Circ.Ed d) c.length m (p ++ [j])).map Circ.toI).length < 5864062014805 := by rw [List.length_map]; omega
    have l4 : (o ++ (Circ.pN (Circ.Ed d) c.length m (p ++ [j])).map Circ.toI).length + 1000 * q ≤ 10000 := by rw [List.length_append, List.length_map]; omega
    exact path_go l1 l2 e l3 (by rw [w64 (show j < c.length by omega) (by omega)]; exact ih _ l4)
/-- The circles that begin with a path. -/
theorem paths_f {c : List Int} {d : List (List Int)} (B : Bk c d) : ∀ m p, p ≠ [] → p.Nodup → (∀ x ∈ p, x < c.length) → p.length + m = c.length + 1 → Ev (fun k => spec_l3Paths.f k c d (Circ.toI p)) ((Circ.pN (Circ.Ed d) c.length m p).map Circ.toI)
 | 0, p, hp, hn, hx, hl => by
  have := Circ.nodup_le c.length p hn hx
  omega
 | m + 1, p, hp, hn, hx, hl => by
  have n4 := B.n4
  have hd := B.hd
  have h0 : 0 < p.length := List.length_pos_iff.2 hp
  have hlen := Circ.toI_len p
  have hlast := hx _ (Circ.getD_n (p := p) (i := p.length - 1) (by omega))
  have hfirst := hx _ (Circ.getD_n (p := p) (i := 0) (by omega))
  have hr := B.hr _ hlast
  have hw : wrap64 (((Circ.toI p).length : Int) - 1) = ((p.length - 1 : Nat) : Int) := by unfold wrap64; omega
  have hrl : rd (Circ.toI p) ((p.length - 1 : Nat) : Int) = ((p.getD (p.length - 1) 0 : Nat) : Int) := by rw [rd_nat, Circ.toI_get]
  have hr0 : rd (Circ.toI p) 0 = ((p.getD 0 0 : Nat) : Int) := by
   have := rd_nat (Circ.toI p) 0
   rw [Circ.toI_get] at this; exact this
  have rest : ∀ o : List (List Int), o.length ≤ 1 → Ev (fun k => spec_l3Paths.j1 k (Circ.toI p) o ((p.getD (p.length - 1) 0 : Nat) : Int) c d) (o ++ (Circ.fl (fun j => if (Nat.blt (p.getD 0 0) j && Circ.Ed d (p.getD (p.length - 1) 0) j && !p.contains j) = true then Circ.pN (Circ.Ed d) c.length m (p ++ [j]) else []) c.length 0).map Circ.toI) := fun o ho => by
   refine Ev.step (fun k => by rw [spec_l3Paths.j1]) (evPos (by omega) ?_)
   rw [hr0, w64 hfirst (by omega)]
   obtain ⟨b, hb⟩ : ∃ b, c.length = (p.getD 0 0 + 1) + b := ⟨c.length - (p.getD 0 0 + 1), by omega⟩
   have hs : ∀ f : Nat → List (List Nat), (∀ j, j < p.getD 0 0 + 1 → f j = []) → Circ.fl f c.length 0 = Circ.fl f b (p.getD 0 0 + 1) := fun f hf => by
    rw [hb, Circ.fl_skip _ _ _ (fun i _ hi => hf i (by omega)), Nat.zero_add]
   rw [hs _ (fun j hj => by rw [if_neg]; simp only [Bool.and_eq_true, Nat.blt_eq]; omega)]
   exact paths_l0 B hp (by omega) hx (fun x hxn hxp => paths_f B m (p ++ [x]) (by simp) (List.nodup_append.2 ⟨hn, by simp, fun a ha b hb => by rw [List.mem_singleton.1 hb]; exact fun e => hxp (e ▸ ha)⟩) (fun y hy => by
    rcases List.mem_append.1 hy with h | h
    ·exact hx y h
    ·rw [List.mem_singleton.1 h]; exact hxn) (by simp; omega)) (by omega) b _ o (by omega) (by omega) (by omega)
  have hE : Circ.Ed d (p.getD (p.length - 1) 0) (p.getD 0 0) = decide ((d.getD (p.getD (p.length - 1) 0) []).getD (p.getD 0 0) 0 ≠ 0) := rfl
  have hge := B.ent hlast hfirst
  refine Ev.step (fun k => by rw [spec_l3Paths.f]) ?_
  simp only [Option.bind_some]
  rw [hw, hrl]
  refine evPos (by omega) (evPos (by omega) ?_)
  rw [Circ.pN]
  by_cases h2 : 2 ≤ p.length
  ·refine evPos (by omega) (evPos (by omega) (evPos (by omega) (evPos (by omega) ?_)))
   rw [hr0, rowsD, rd_nat]
   refine evPos (by omega) (evPos (by omega) ?_)
   by_cases hv : (d.getD (p.getD (p.length - 1) 0) []).getD (p.getD 0 0) 0 = 0
   ·rw [if_neg (by rw [hE, decide_eq_false (by simpa using hv)]; simp), List.nil_append]
    refine Ev.step (f := fun k => spec_l3Paths.j1 k (Circ.toI p) [] ((p.getD (p.length - 1) 0 : Nat) : Int) c d) (fun k => by rw [spec_l3Paths.j0, if_neg (by rw [decide_eq_true_eq]; omega)]) ?_
    exact rest [] (by simp)
   ·rw [if_pos (by rw [hE, decide_eq_true (by simpa using hv), Nat.ble_eq.mpr h2]; rfl), List.map_append]
    refine Ev.step (fun k => by rw [spec_l3Paths.j0]) (evPos (decide_eq_true (by omega)) ?_)
    simp only [Option.bind_some, List.nil_append]
    refine evPos (by simp; omega) (evPos (by simp) ?_)
    exact rest [Circ.toI p] (by simp)
  ·refine evNeg (by omega) ?_
   rw [if_neg (by
    rw [Bool.and_eq_true, Nat.ble_eq]
    exact fun h => h2 h.1), List.nil_append]
   refine Ev.step (f := fun k => spec_l3Paths.j1 k (Circ.toI p) [] ((p.getD (p.length - 1) 0 : Nat) : Int) c d) (fun k => by rw [spec_l3Paths.j0, if_neg (by decide)]) ?_
   exact rest [] (by simp)
theorem circ_l0 {c : List Int} {d : List (List Int)} (B : Bk c d) (sb : Ev (fun k => spec_BookOk.f k c d) true) {r : List (List Int)} : ∀ (q i : Nat) (o : List (List Int)), i + q = c.length → o.length + 1000 * q ≤ 10000 →
  Ev (fun k => spec_CirclesOf.j1 k (o ++ (Circ.fl (fun i => Circ.pN (Circ.Ed d) c.length c.length [i]) q i).map Circ.toI)) r → Ev (fun k => spec_CirclesOf.l0 k o (i : Int) c d) r
 | 0, i, o, hi, ho, e => by
  rw [Circ.fl, List.map_nil, List.append_nil] at e
  exact Ev.step (fun k => by rw [spec_CirclesOf.l0]) (evNeg (by omega) e)
 | q + 1, i, o, hi, ho, e => by
  have n4 := B.n4
  have h1 := paths_f B c.length [i] (by simp) (by simp) (fun x hx => by rw [List.mem_singleton.1 hx]; omega) (by simp; omega)
  have few := pN_few (Circ.Ed d) c.length n4 c.length [i]
  have five : 5 ^ c.length ≤ 625 := Nat.le_trans (Nat.pow_le_pow_right (by decide) n4) (by decide)
  rw [show Circ.toI [i] = [(i : Int)] from rfl] at h1
  have hb : o.length + ((Circ.pN (Circ.Ed d) c.length c.length [i]).map Circ.toI).length < 5864062014805 := by rw [List.length_map]; omega
  refine Ev.step (fun k => by rw [spec_CirclesOf.l0]) (evPos (by omega) (Ev.bind sb (evPos rfl (Ev.bind h1 (evPos hb ?_)))))
  rw [w64 (show i < c.length by omega) (by omega)]
  refine circ_l0 B sb q (i + 1) _ (by omega) (by rw [List.length_append, List.length_map]; omega) ?_
  rw [Circ.fl, List.map_append, ← List.append_assoc] at e
  exact e
/-- The reference's circles. -/
theorem circSpec_f {c : List Int} {d : List (List Int)} (B : Bk c d) (sb : Ev (fun k => spec_BookOk.f k c d) true) : Ev (fun k => spec_CirclesOf.f k c d) (Circ.circI d c.length) := by
 have n4 := B.n4
 have F := Circ.circs_ok (Circ.Ed d) c.length B.n1 B.n4 B.bt.edz
 refine Ev.congr (fun k => by unfold spec_CirclesOf.f; rfl) (circ_l0 B sb c.length 0 [] (by omega) (by simp; omega) ?_)
 rw [List.nil_append, ← Circ.sorted_all]
 refine Ev.step (f := fun k => spec_CirclesOf.l1 k ((Circ.cN (Circ.Ed d) c.length).map Circ.toI) ((1 : Nat) : Int)) (fun k => by rw [spec_CirclesOf.j1]; rfl) (sort_l1 _ 1 _ (Nat.le_refl _) rfl (fun x hx => ?_) ?_)
 ·obtain ⟨y, hy, rfl⟩ := List.mem_map.1 hx
  obtain ⟨i, _, _, hi⟩ := Circ.fl_mem _ _ hy
  have := Circ.pN_len _ _ _ _ _ hi
  rw [Circ.toI_len]
  simp at this
  omega
 ·rw [List.length_map]
  have := F.few
  omega
theorem circSpec_no {c : List Int} {d : List (List Int)} (sb : Ev (fun k => spec_BookOk.f k c d) false) : Ev (fun k => spec_CirclesOf.f k c d) [] := by
 have e : Ev (fun k => spec_CirclesOf.j1 k []) ([] : List (List Int)) := Ev.step (f := fun k => spec_CirclesOf.l1 k [] 1) (fun k => by rw [spec_CirclesOf.j1]) (Ev.step (f := fun _ => some []) (fun k => by rw [spec_CirclesOf.l1, if_neg (by decide)]) (Ev.now _))
 refine Ev.congr (fun k => by unfold spec_CirclesOf.f; rfl) (Ev.step (fun k => by rw [spec_CirclesOf.l0]) (evIte (fun _ => Ev.bind sb (evNeg (show ¬ (false = true) by decide) e)) (fun _ => e)))

theorem circI_len (d : List (List Int)) (n : Nat) : (Circ.circI d n).length = (Circ.circN (Circ.Ed d) n).length := by unfold Circ.circI; rw [List.length_map]
theorem sinkN_len : ∀ j xs, (Circ.sinkN j xs).length = xs.length
 | 0, xs => rfl
 | j + 1, xs => by
  rw [Circ.sinkN]
  split
  ·rw [sinkN_len, Circ.swp_len]
  ·rfl
theorem sortN_len : ∀ m k xs, (Circ.sortN m k xs).length = xs.length
 | 0, k, xs => rfl
 | m + 1, k, xs => by rw [Circ.sortN, sortN_len, sinkN_len]
/-- A circle in the list. -/
theorem circ_at {c : List Int} {d : List (List Int)} (B : Bk c d) {i : Nat} (hi : i < (Circ.circI d c.length).length) : ∃ p, (Circ.circI d c.length).getD i [] = Circ.toI p ∧ p = (Circ.circN (Circ.Ed d) c.length).getD i [] ∧ Circ.IsCirc (Circ.Ed d) c.length p := by
 have F := Circ.circs_ok (Circ.Ed d) c.length B.n1 B.n4 B.bt.edz
 rw [circI_len] at hi
 refine ⟨_, by unfold Circ.circI; rw [Circ.map_getD], rfl, F.form _ ?_⟩
 rw [List.getD_eq_getElem?_getD, List.getElem?_eq_getElem hi]
 exact List.getElem_mem hi
theorem circ_few {c : List Int} {d : List (List Int)} (B : Bk c d) : (Circ.circI d c.length).length ≤ 20 := by
 have F := Circ.circs_ok (Circ.Ed d) c.length B.n1 B.n4 B.bt.edz
 rw [circI_len]
 unfold Circ.circN
 rw [sortN_len]
 exact F.few
def vec (n : Nat) (f : Nat → Int) : List Int := (List.range n).map f
def mat (n : Nat) (R : Nat → Nat → Int) : List (List Int) := (List.range n).map fun p => vec n (R p)
def upd (f : Nat → Int) (i : Nat) (y : Int) : Nat → Int := fun p => if p = i then y else f p
def upd2 (R : Nat → Nat → Int) (i k : Nat) (y : Int) : Nat → Nat → Int := fun p => if p = i then upd (R p) k y else R p
theorem vec_len (n : Nat) (f : Nat → Int) : (vec n f).length = n := by simp [vec]
theorem mat_len (n : Nat) (R : Nat → Nat → Int) : (mat n R).length = n := by simp [mat]
theorem vec_set (n : Nat) (f : Nat → Int) (i : Nat) (y : Int) : (vec n f).set i y = vec n (upd f i y) := rmap_set f n i y
theorem vec_get (n : Nat) (f : Nat → Int) (i : Nat) (h : i < n) : (vec n f).getD i 0 = f i := rmap_get f n i h
theorem mat_get (n : Nat) (R : Nat → Nat → Int) (i : Nat) (h : i < n) : (mat n R).getD i [] = vec n (R i) := by
 unfold mat; rw [List.getD_eq_getElem?_getD, List.getElem?_map, List.getElem?_range h]; rfl
theorem mat_set (n : Nat) (R : Nat → Nat → Int) (i k : Nat) (y : Int) : (mat n R).set i (vec n (upd (R i) k y)) = mat n (upd2 R i k y) := by
 unfold mat
 rw [rmap_set]
 refine rmap_congr fun j _ => ?_
 unfold upd2
 by_cases e : j = i
 ·subst e; rw [if_pos rfl, if_pos rfl]
 ·rw [if_neg e, if_neg e]
/-- The sum of n numbers. -/
def S (n : Nat) (f : Nat → Int) : Int := sm (vec n f)
theorem rd_vec' (n : Nat) (f : Nat → Int) (i : Nat) (h : i < n) : rd (vec n f) (i : Int) = f i := by rw [rd_nat, vec_get n f i h]
theorem rd_mat' (n : Nat) (R : Nat → Nat → Int) (i : Nat) (h : i < n) : rd_L1 (mat n R) (i : Int) = vec n (R i) := by
 unfold rd_L1; rw [Int.toNat_natCast, mat_get n R i h]
/-- A book by its table. -/
structure BkR (c : List Int) (R : Nat → Nat → Int) : Prop where
 n1 : 1 ≤ c.length
 n4 : c.length ≤ 4
 ent : ∀ i j, i < c.length → j < c.length → 0 ≤ R i j ∧ R i j ≤ 9
 hz : ∀ i, i < c.length → R i i = 0
 hc : ∀ i, i < c.length → 0 ≤ c.getD i 0 ∧ c.getD i 0 ≤ 20
theorem BkR.ok {c : List Int} {R : Nat → Nat → Int} (h : BkR c R) : okB c (mat c.length R) = true := by
 refine (okB_iff c _).2 ⟨⟨h.n1, h.n4⟩, mat_len _ _, fun i hi => ⟨h.hc i hi, by rw [mat_get _ _ _ hi, vec_len], by rw [mat_get _ _ _ hi, vec_get _ _ _ hi, h.hz i hi], fun x hx => ?_⟩⟩
 rw [mat_get _ _ _ hi] at hx
 obtain ⟨j, hj, rfl⟩ := List.mem_map.1 hx
 exact h.ent i j hi (List.mem_range.1 hj)
theorem BkR.bk {c : List Int} {R : Nat → Nat → Int} (h : BkR c R) : Bk c (mat c.length R) := Bk.of h.ok
theorem vec_of (xs : List Int) (n : Nat) (h : xs.length = n) : xs = vec n (fun j => xs.getD j 0) := by
 unfold vec
 refine List.ext_getElem (by simp [h]) fun j h1 h2 => ?_
 rw [List.getElem_map, List.getElem_range, List.getD_eq_getElem?_getD, List.getElem?_eq_getElem h1]; rfl
theorem mat_of (d : List (List Int)) (n : Nat) (h : d.length = n) (hr : ∀ i, i < n → (d.getD i []).length = n) : d = mat n (fun i j => (d.getD i []).getD j 0) := by
 unfold mat
 refine List.ext_getElem (by simp [h]) fun i h1 h2 => ?_
 rw [List.getElem_map, List.getElem_range, ← vec_of _ _ (hr i (by omega)), List.getD_eq_getElem?_getD, List.getElem?_eq_getElem h1]; rfl
theorem Bk.tab {c : List Int} {d : List (List Int)} (B : Bk c d) : ∃ R, d = mat c.length R ∧ BkR c R :=
 ⟨fun i j => (d.getD i []).getD j 0, mat_of d c.length B.hd B.hr, B.n1, B.n4, fun i j hi hj => B.ent hi hj, B.hz, B.hc⟩
/-- Who comes behind bank k of a circle. -/
def nxt (p : List Nat) (k : Nat) : Nat := p.getD ((k + 1) % p.length) 0
open Classical in
/-- The table behind the circle's first j banks have been struck. -/
noncomputable def strk (R : Nat → Nat → Int) (p : List Nat) (low : Int) (j : Nat) : Nat → Nat → Int := fun a b => if ∃ k, k < j ∧ p.getD k 0 = a ∧ nxt p k = b then R a b - low else R a b
theorem strk_zero (R : Nat → Nat → Int) (p : List Nat) (low : Int) : strk R p low 0 = R := by
 funext a b
 unfold strk
 rw [if_neg (fun ⟨k, h, _⟩ => by omega)]
theorem strk_succ (R : Nat → Nat → Int) (p : List Nat) (low : Int) (j : Nat) : upd2 (strk R p low j) (p.getD j 0) (nxt p j) (R (p.getD j 0) (nxt p j) - low) = strk R p low (j + 1) := by
 funext a b
 unfold upd2 upd
 by_cases e : a = p.getD j 0
 ·rw [if_pos e]
  by_cases e2 : b = nxt p j
  ·rw [if_pos e2]
   unfold strk
   rw [if_pos ⟨j, by omega, e.symm, e2.symm⟩, e, e2]
  ·rw [if_neg e2]
   unfold strk
   by_cases h : ∃ k, k < j ∧ p.getD k 0 = a ∧ nxt p k = b
   ·obtain ⟨k, h1, h2, h3⟩ := h
    rw [if_pos ⟨k, h1, h2, h3⟩, if_pos ⟨k, by omega, h2, h3⟩]
   ·rw [if_neg h, if_neg (fun ⟨k, h1, h2, h3⟩ => h ⟨k, by
     rcases Nat.lt_or_ge k j with h4 | h4
     ·exact h4
     ·exact absurd h3.symm (by rw [show k = j by omega]; exact e2), h2, h3⟩)]
 ·rw [if_neg e]
  unfold strk
  by_cases h : ∃ k, k < j ∧ p.getD k 0 = a ∧ nxt p k = b
  ·obtain ⟨k, h1, h2, h3⟩ := h
   rw [if_pos ⟨k, h1, h2, h3⟩, if_pos ⟨k, by omega, h2, h3⟩]
  ·rw [if_neg h, if_neg (fun ⟨k, h1, h2, h3⟩ => h ⟨k, by
    rcases Nat.lt_or_ge k j with h4 | h4
    ·exact h4
    ·exact absurd h2.symm (by rw [show k = j by omega]; exact e), h2, h3⟩)]
/-- Bank j's debt has not been struck before its turn. -/
theorem strk_at {R : Nat → Nat → Int} {E : Nat → Nat → Bool} {n : Nat} {p : List Nat} (C : Circ.IsCirc E n p) (low : Int) {j : Nat} (hj : j < p.length) : strk R p low j (p.getD j 0) (nxt p j) = R (p.getD j 0) (nxt p j) := by
 unfold strk
 rw [if_neg (fun ⟨k, h1, h2, _⟩ => C.apart j k hj h1 h2)]
/-- The least debt of a circle, so far. -/
def lowI (R : Nat → Nat → Int) (p : List Nat) : Nat → Nat → Int → Int
 | 0, _, x => x
 | m + 1, j, x => lowI R p m (j + 1) (mn x (R (p.getD j 0) (nxt p j)))
theorem lowI_le (R : Nat → Nat → Int) (p : List Nat) : ∀ m j x, lowI R p m j x ≤ x ∧ ∀ k, j ≤ k → k < j + m → lowI R p m j x ≤ R (p.getD k 0) (nxt p k)
 | 0, j, x => ⟨Int.le_refl _, fun k h1 h2 => by omega⟩
 | m + 1, j, x => by
  have h := lowI_le R p m (j + 1) (mn x (R (p.getD j 0) (nxt p j)))
  rw [lowI]
  have h1 : mn x (R (p.getD j 0) (nxt p j)) ≤ x ∧ mn x (R (p.getD j 0) (nxt p j)) ≤ R (p.getD j 0) (nxt p j) := by unfold mn; split <;> omega
  refine ⟨by omega, fun k a b => ?_⟩
  by_cases e : k = j
  ·subst e; omega
  ·exact h.2 k (by omega) (by omega)
theorem lowI_pos (R : Nat → Nat → Int) (p : List Nat) : ∀ m j x, 1 ≤ x → (∀ k, j ≤ k → k < j + m → 1 ≤ R (p.getD k 0) (nxt p k)) → 1 ≤ lowI R p m j x
 | 0, j, x, hx, _ => hx
 | m + 1, j, x, hx, h => by
  rw [lowI]
  refine lowI_pos R p m (j + 1) _ ?_ (fun k a b => h k (by omega) (by omega))
  have := h j (Nat.le_refl _) (by omega)
  unfold mn
  split <;> omega
/-- A book with a circle struck out. -/
noncomputable def struckR (R : Nat → Nat → Int) (p : List Nat) : Nat → Nat → Int := strk R p (lowI R p p.length 0 9) p.length
theorem nxt_lt {E : Nat → Nat → Bool} {n : Nat} {p : List Nat} (C : Circ.IsCirc E n p) {k : Nat} (hk : k < p.length) : nxt p k < n := C.lt _ (Nat.mod_lt _ (by omega))
theorem owe_R {c : List Int} {R : Nat → Nat → Int} {p : List Nat} (B : BkR c R) (C : Circ.IsCirc (Circ.Ed (mat c.length R)) c.length p) {k : Nat} (hk : k < p.length) : 1 ≤ R (p.getD k 0) (nxt p k) := by
 have h := C.owe k hk
 have h1 := C.lt k hk
 have h2 := nxt_lt C hk
 have h3 := B.ent _ _ h1 h2
 unfold Circ.Ed at h
 rw [mat_get _ _ _ h1] at h
 have h4 := of_decide_eq_true h
 rw [vec_get _ _ _ (show p.getD ((k + 1) % p.length) 0 < c.length from h2)] at h4
 have h5 : R (p.getD k 0) (nxt p k) ≠ 0 := h4
 omega
theorem low_in {c : List Int} {R : Nat → Nat → Int} {p : List Nat} (B : BkR c R) (C : Circ.IsCirc (Circ.Ed (mat c.length R)) c.length p) : 1 ≤ lowI R p p.length 0 9 ∧ lowI R p p.length 0 9 ≤ 9 ∧ ∀ k, k < p.length → lowI R p p.length 0 9 ≤ R (p.getD k 0) (nxt p k) := by
 have h := lowI_le R p p.length 0 9
 exact ⟨lowI_pos R p p.length 0 9 (by omega) (fun k _ hk => owe_R B C (by omega)), h.1, fun k hk => h.2 k (by omega) (by omega)⟩
/-- All that is owed. -/
def tot (n : Nat) (R : Nat → Nat → Int) : Int := S n (fun i => S n (R i))
/-- Circles struck out, one after the other. -/
noncomputable def woc (n : Nat) : Nat → (Nat → Nat → Int) → Int → (Nat → Nat → Int) × Int
 | 0, R, x => (R, x)
 | t + 1, R, x => match Circ.circN (Circ.Ed (mat n R)) n with
  | [] => (R, x)
  | p :: _ => woc n t (struckR R p) (x + 1)
/-- What both loops over a circle meet at bank j. -/
structure CircAt (n : Nat) (p : List Nat) (j : Nat) : Prop where
 len : ((Circ.toI p).length : Int) = (p.length : Int)
 at_ : rd (Circ.toI p) (j : Int) = ((p.getD j 0 : Nat) : Int)
 mod_ : Int.tmod (wrap64 ((j : Int) + 1)) ((Circ.toI p).length : Int) = (((j + 1) % p.length : Nat) : Int)
 nx : rd (Circ.toI p) (((j + 1) % p.length : Nat) : Int) = ((nxt p j : Nat) : Int)
 ml : (j + 1) % p.length < p.length
 a : p.getD j 0 < n
 b : nxt p j < n
theorem circAt {E : Nat → Nat → Bool} {n : Nat} {p : List Nat} (C : Circ.IsCirc E n p) {j : Nat} (hj : j < p.length) : CircAt n p j := by
 have hlen := Circ.toI_len p
 have four := C.four
 refine ⟨by rw [hlen], by rw [rd_nat, Circ.toI_get], ?_, by rw [rd_nat, Circ.toI_get]; rfl, Nat.mod_lt _ (by omega), C.lt j hj, nxt_lt C hj⟩
 rw [w64 hj (by omega), hlen, Int.tmod_eq_emod_of_nonneg (by omega)]
 exact (Int.natCast_emod _ _).symm

theorem copy_l0 (d : List (List Int)) (hd : d.length ≤ 1000) (hr : ∀ i, (d.getD i []).length ≤ 1000) (c0 c : List Int) : ∀ (m i : Nat), i + m = d.length → Ev (fun k => spec_l2Copy.l0 k (i : Int) c0 d c (d.take i)) (c, d)
 | 0, i, hi => by
  rw [List.take_of_length_le (by omega)]
  exact Ev.step (fun k => by rw [spec_l2Copy.l0]) (evNeg (by omega) (Ev.now _))
 | m + 1, i, hi => by
  have h1 := hr i
  have h2 : (d.take i).length ≤ 1000 := by rw [List.length_take]; omega
  refine Ev.step (fun k => by rw [spec_l2Copy.l0]) (evPos (by omega) ?_)
  simp only [Option.bind_some]
  rw [rdR_nat, List.nil_append, w64 (show i < d.length by omega) (by omega)]
  refine evPos (by omega) (evPos (by simp only [List.length_nil]; omega) (evPos (by omega) ?_))
  have := copy_l0 d hd hr c0 c m (i + 1) (by omega)
  rw [take_snoc d [] i (by omega)] at this
  exact this
theorem copySpec_f (c : List Int) (d : List (List Int)) (hc : c.length ≤ 1000) (hd : d.length ≤ 1000) (hr : ∀ i, (d.getD i []).length ≤ 1000) : Ev (fun k => spec_l2Copy.f k c d) (c, d) := by
 have h := copy_l0 d hd hr c c d.length 0 (by omega)
 unfold spec_l2Copy.f
 simp only [Option.bind_some, List.nil_append]
 exact evPos (by simp only [List.length_nil]; omega) h
theorem strikeSpec_l1 {c : List Int} {R : Nat → Nat → Int} {p : List Nat} (B : BkR c R) (C : Circ.IsCirc (Circ.Ed (mat c.length R)) c.length p) {low : Int} (hl : 1 ≤ low ∧ low ≤ 9) :
  ∀ (m j : Nat), j + m = p.length → Ev (fun k => spec_l3Struck.l1 k (Circ.toI p) low (j : Int) c (mat c.length R) c (mat c.length (strk R p low j))) (c, mat c.length (strk R p low p.length))
 | 0, j, hj => by
  have hlen := Circ.toI_len p
  obtain rfl : j = p.length := by omega
  exact Ev.step (fun k => by rw [spec_l3Struck.l1]) (evNeg (by omega) (Ev.now _))
 | m + 1, j, hj => by
  have ih := strikeSpec_l1 B C hl m (j + 1) (by omega)
  have hjl : j < p.length := by omega
  have A := circAt C hjl
  have l1 := mat_len c.length R
  have l2 := mat_len c.length (strk R p low j)
  have l3 := vec_len c.length (R (p.getD j 0))
  have l4 := vec_len c.length (strk R p low j (p.getD j 0))
  have ea := B.ent _ _ A.a A.b
  rw [← w64 hjl (by have := C.four; omega)] at ih
  have hw : wrap64 (R (p.getD j 0) (nxt p j) - low) = R (p.getD j 0) (nxt p j) - low := by unfold wrap64; omega
  have z : ∀ x : Nat, (0 : Int) ≤ (x : Int) := fun x => by omega
  have alen := A.len
  have aml := A.ml
  have aa := A.a
  have ab := A.b
  have t1 : (j : Int) < ((Circ.toI p).length : Int) := by omega
  have t2 : ¬ (((Circ.toI p).length : Int) = 0) := by omega
  have t3 : (((j + 1) % p.length : Nat) : Int) < ((Circ.toI p).length : Int) := by rw [alen]; exact_mod_cast aml
  have t4 : ((p.getD j 0 : Nat) : Int) < ((mat c.length (strk R p low j)).length : Int) := by rw [l2]; exact_mod_cast aa
  have t5 : ((p.getD j 0 : Nat) : Int) < ((mat c.length R).length : Int) := by rw [l1]; exact_mod_cast aa
  have t6 : ((nxt p j : Nat) : Int) < ((vec c.length (R (p.getD j 0))).length : Int) := by rw [l3]; exact_mod_cast ab
  have t7 : ((nxt p j : Nat) : Int) < ((vec c.length (strk R p low j (p.getD j 0))).length : Int) := by rw [l4]; exact_mod_cast ab
  refine Ev.step (fun k => by rw [spec_l3Struck.l1]) ?_
  rw [A.mod_, A.at_, A.nx, rd_mat' _ _ _ A.a, rd_mat' _ _ _ A.a, rd_vec' _ _ _ A.b, hw, Int.toNat_natCast, Int.toNat_natCast, vec_set, mat_set, strk_succ]
  exact evPos t1 (evPos (z j) (evNeg t2 (evPos (z _) (evPos t3 (evPos (z _) (evPos t4 (evPos t5 (evPos (z _) (evPos t6 (evPos t7 ih))))))))))
theorem strikeSpec_l0 {c : List Int} {R : Nat → Nat → Int} {p : List Nat} (B : BkR c R) (C : Circ.IsCirc (Circ.Ed (mat c.length R)) c.length p) {r : List Int × List (List Int)} {g : List (List Int)} :
  ∀ (m j : Nat) (x : Int), j + m = p.length → Ev (fun k => spec_l3Struck.l1 k (Circ.toI p) (lowI R p m j x) 0 c (mat c.length R) c g) r → Ev (fun k => spec_l3Struck.l0 k (Circ.toI p) x (j : Int) c (mat c.length R) c g) r
 | 0, j, x, hj, e => by
  have hlen := Circ.toI_len p
  replace e : Ev (fun k => spec_l3Struck.l1 k (Circ.toI p) x 0 c (mat c.length R) c g) r := e
  exact Ev.step (fun k => by rw [spec_l3Struck.l0]) (evNeg (by omega) e)
 | m + 1, j, x, hj, e => by
  have hjl : j < p.length := by omega
  have A := circAt C hjl
  have l1 := mat_len c.length R
  have l3 := vec_len c.length (R (p.getD j 0))
  rw [lowI] at e
  have ih := strikeSpec_l0 B C m (j + 1) _ (by omega) e
  rw [← w64 hjl (by have := C.four; omega)] at ih
  have z : ∀ x : Nat, (0 : Int) ≤ (x : Int) := fun x => by omega
  have alen := A.len
  have aml := A.ml
  have aa := A.a
  have ab := A.b
  have t1 : (j : Int) < ((Circ.toI p).length : Int) := by omega
  have t2 : ¬ (((Circ.toI p).length : Int) = 0) := by omega
  have t3 : (((j + 1) % p.length : Nat) : Int) < ((Circ.toI p).length : Int) := by rw [alen]; exact_mod_cast aml
  have t5 : ((p.getD j 0 : Nat) : Int) < ((mat c.length R).length : Int) := by rw [l1]; exact_mod_cast aa
  have t6 : ((nxt p j : Nat) : Int) < ((vec c.length (R (p.getD j 0))).length : Int) := by rw [l3]; exact_mod_cast ab
  refine Ev.step (fun k => by rw [spec_l3Struck.l0]) ?_
  rw [A.mod_, A.at_, A.nx, rd_mat' _ _ _ A.a, rd_vec' _ _ _ A.b]
  exact evPos t1 (evPos (z j) (evPos (z _) (evPos t5 (evNeg t2 (evPos (z _) (evPos t3 (evPos (z _) (evPos t6 ih))))))))
theorem strikeSpec_f {c : List Int} {R : Nat → Nat → Int} {p : List Nat} (B : BkR c R) (C : Circ.IsCirc (Circ.Ed (mat c.length R)) c.length p) : Ev (fun k => spec_l3Struck.f k c (mat c.length R) (Circ.toI p)) (c, mat c.length (struckR R p)) := by
 have n4 := B.n4
 have hl := low_in B C
 have h1 := strikeSpec_l1 B C (low := lowI R p p.length 0 9) ⟨hl.1, hl.2.1⟩ p.length 0 (by omega)
 rw [strk_zero] at h1
 have h0 := strikeSpec_l0 B C (g := mat c.length R) p.length 0 9 (by omega) h1
 have hc := copySpec_f c (mat c.length R) (by omega) (by rw [mat_len]; omega) (fun i => by
  by_cases hi : i < c.length
  ·rw [mat_get _ _ _ hi, vec_len]; omega
  ·rw [List.getD_eq_getElem?_getD, List.getElem?_eq_none (by rw [mat_len]; omega)]; simp)
 exact Ev.congr (fun k => by unfold spec_l3Struck.f; rfl) (Ev.bind hc h0)

theorem copyI_l0 (d : List (List Int)) (hd : d.length ≤ 1000) (hr : ∀ i, (d.getD i []).length ≤ 1000) (c : List Int) : ∀ (m i : Nat), i + m = d.length → Ev (fun k => impl_copyBook.l0 k d (d.length : Int) (i : Int) c (d.take i)) (c, d)
 | 0, i, hi => by
  rw [List.take_of_length_le (by omega)]
  exact Ev.step (fun k => by rw [impl_copyBook.l0]) (evNeg (by omega) (Ev.now _))
 | m + 1, i, hi => by
  have h1 := hr i
  have h2 : (d.take i).length ≤ 1000 := by rw [List.length_take]; omega
  refine Ev.step (fun k => by rw [impl_copyBook.l0]) (evPos (by omega) ?_)
  simp only [Option.bind_some]
  rw [rdR_nat, List.nil_append, w64 (show i < d.length by omega) (by omega)]
  refine evPos (by omega) (evPos (by omega) (evPos (by simp only [List.length_nil]; omega) (evPos (by omega) ?_)))
  have := copyI_l0 d hd hr c m (i + 1) (by omega)
  rw [take_snoc d [] i (by omega)] at this
  exact this
theorem copyImpl_f (c : List Int) (d : List (List Int)) (hc : c.length ≤ 1000) (hd : d.length ≤ 1000) (hr : ∀ i, (d.getD i []).length ≤ 1000) : Ev (fun k => impl_copyBook.f k c d) (c, d) := by
 have h := copyI_l0 d hd hr c d.length 0 (by omega)
 unfold impl_copyBook.f
 simp only [Option.bind_some, List.nil_append]
 exact evPos (by simp only [List.length_nil]; omega) h
theorem strikeImpl_l1 {c : List Int} {R : Nat → Nat → Int} {p : List Nat} (B : BkR c R) (C : Circ.IsCirc (Circ.Ed (mat c.length R)) c.length p) {low : Int} (hl : 1 ≤ low ∧ low ≤ 9) :
  ∀ (m j : Nat), j + m = p.length → Ev (fun k => impl_struckOut.l1 k (Circ.toI p) low (Circ.toI p) ((Circ.toI p).length : Int) (j : Int) c (mat c.length (strk R p low j))) (c, mat c.length (strk R p low p.length))
 | 0, j, hj => by
  have hlen := Circ.toI_len p
  obtain rfl : j = p.length := by omega
  exact Ev.step (fun k => by rw [impl_struckOut.l1]) (evNeg (by omega) (Ev.now _))
 | m + 1, j, hj => by
  have ih := strikeImpl_l1 B C hl m (j + 1) (by omega)
  have hjl : j < p.length := by omega
  have A := circAt C hjl
  have l2 := mat_len c.length (strk R p low j)
  have l4 := vec_len c.length (strk R p low j (p.getD j 0))
  have ea := B.ent _ _ A.a A.b
  rw [← w64 hjl (by have := C.four; omega)] at ih
  have hw : wrap64 (R (p.getD j 0) (nxt p j) - low) = R (p.getD j 0) (nxt p j) - low := by unfold wrap64; omega
  have z : ∀ x : Nat, (0 : Int) ≤ (x : Int) := fun x => by omega
  have alen := A.len
  have aml := A.ml
  have aa := A.a
  have ab := A.b
  have t1 : (j : Int) < ((Circ.toI p).length : Int) := by omega
  have t2 : ¬ (((Circ.toI p).length : Int) = 0) := by omega
  have t3 : (((j + 1) % p.length : Nat) : Int) < ((Circ.toI p).length : Int) := by rw [alen]; exact_mod_cast aml
  have t4 : ((p.getD j 0 : Nat) : Int) < ((mat c.length (strk R p low j)).length : Int) := by rw [l2]; exact_mod_cast aa
  have t7 : ((nxt p j : Nat) : Int) < ((vec c.length (strk R p low j (p.getD j 0))).length : Int) := by rw [l4]; exact_mod_cast ab
  refine Ev.step (fun k => by rw [impl_struckOut.l1]) ?_
  rw [A.mod_, A.at_, A.nx, rd_mat' _ _ _ A.a, rd_vec' _ _ _ A.b, strk_at C low hjl, hw, Int.toNat_natCast, Int.toNat_natCast, vec_set, mat_set, strk_succ]
  exact evPos t1 (evPos (z j) (evPos t1 (evPos (z _) (evPos t4 (evNeg t2 (evPos (z _) (evPos t3 (evPos (z _) (evPos t7 ih)))))))))
theorem strikeImpl_l0 {c : List Int} {R : Nat → Nat → Int} {p : List Nat} (B : BkR c R) (C : Circ.IsCirc (Circ.Ed (mat c.length R)) c.length p) {r : List Int × List (List Int)} {g : List (List Int)} :
  ∀ (m j : Nat) (x : Int), j + m = p.length → Ev (fun k => impl_struckOut.l1 k (Circ.toI p) (lowI R p m j x) (Circ.toI p) ((Circ.toI p).length : Int) 0 c g) r → Ev (fun k => impl_struckOut.l0 k (Circ.toI p) x (Circ.toI p) ((Circ.toI p).length : Int) (j : Int) c (mat c.length R) c g) r
 | 0, j, x, hj, e => by
  have hlen := Circ.toI_len p
  replace e : Ev (fun k => impl_struckOut.l1 k (Circ.toI p) x (Circ.toI p) ((Circ.toI p).length : Int) 0 c g) r := e
  exact Ev.step (fun k => by rw [impl_struckOut.l0]) (evNeg (by omega) e)
 | m + 1, j, x, hj, e => by
  have hjl : j < p.length := by omega
  have A := circAt C hjl
  have l1 := mat_len c.length R
  have l3 := vec_len c.length (R (p.getD j 0))
  rw [lowI] at e
  have ih := strikeImpl_l0 B C m (j + 1) _ (by omega) e
  rw [← w64 hjl (by have := C.four; omega)] at ih
  have z : ∀ x : Nat, (0 : Int) ≤ (x : Int) := fun x => by omega
  have alen := A.len
  have aml := A.ml
  have aa := A.a
  have ab := A.b
  have t1 : (j : Int) < ((Circ.toI p).length : Int) := by omega
  have t2 : ¬ (((Circ.toI p).length : Int) = 0) := by omega
  have t3 : (((j + 1) % p.length : Nat) : Int) < ((Circ.toI p).length : Int) := by rw [alen]; exact_mod_cast aml
  have t5 : ((p.getD j 0 : Nat) : Int) < ((mat c.length R).length : Int) := by rw [l1]; exact_mod_cast aa
  have t6 : ((nxt p j : Nat) : Int) < ((vec c.length (R (p.getD j 0))).length : Int) := by rw [l3]; exact_mod_cast ab
  refine Ev.step (fun k => by rw [impl_struckOut.l0]) ?_
  rw [A.mod_, A.at_, A.nx, rd_mat' _ _ _ A.a, rd_vec' _ _ _ A.b]
  exact evPos t1 (evPos (z j) (evPos t1 (evPos (z _) (evPos t5 (evNeg t2 (evPos (z _) (evPos t3 (evPos (z _) (evPos t6 ih)))))))))
theorem mat_rows (n : Nat) (R : Nat → Nat → Int) (i : Nat) : ((mat n R).getD i []).length ≤ n := by
 by_cases hi : i < n
 ·rw [mat_get _ _ _ hi, vec_len]; omega
 ·rw [List.getD_eq_getElem?_getD, List.getElem?_eq_none (by rw [mat_len]; omega)]; simp
theorem strikeImpl_f {c : List Int} {R : Nat → Nat → Int} {p : List Nat} (B : BkR c R) (C : Circ.IsCirc (Circ.Ed (mat c.length R)) c.length p) : Ev (fun k => impl_struckOut.f k c (mat c.length R) (Circ.toI p)) (c, mat c.length (struckR R p)) := by
 have n4 := B.n4
 have hl := low_in B C
 have h1 := strikeImpl_l1 B C (low := lowI R p p.length 0 9) ⟨hl.1, hl.2.1⟩ p.length 0 (by omega)
 rw [strk_zero] at h1
 have h0 := strikeImpl_l0 B C (g := mat c.length R) p.length 0 9 (by omega) h1
 have hc := copyImpl_f c (mat c.length R) (by omega) (by rw [mat_len]; omega) (fun i => by have := mat_rows c.length R i; omega)
 exact Ev.congr (fun k => by unfold impl_struckOut.f; rfl) (Ev.bind hc h0)
theorem circles_f {c : List Int} {d : List (List Int)} (B : Bk c d) : Ev (fun k => impl_circles.f k c d) (Circ.circI d c.length) := ⟨4, fun k hk => Circ.circF_tells B.bt k hk⟩


theorem l1In_is {a hi : Int} {b : Bool} (h : decide (0 ≤ a ∧ a ≤ hi) = b) : Ev (fun _ => spec_l1In.f a 0 hi) b := by
 have e : spec_l1In.f a 0 hi = some b := by
  rw [← h]
  unfold spec_l1In.f
  by_cases h0 : a ≥ 0
  ·rw [if_pos h0]
   by_cases h1 : a ≤ hi
   ·rw [decide_eq_true h1, decide_eq_true ⟨h0, h1⟩]
   ·rw [decide_eq_false h1, decide_eq_false (fun q => h1 q.2)]
  ·rw [if_neg h0, decide_eq_false (fun q => h0 q.1)]
 exact ⟨0, fun _ _ => e⟩
theorem struckOut_f {l0 : List Int} {l1 : List (List Int)} (ib : Ev (fun k => impl_isBook.f k l0 l1) (okB l0 l1)) (sb : Ev (fun k => spec_BookOk.f k l0 l1) (okB l0 l1)) (a1 : Int) (wa : (Lit.int .i64 a1).wf = true) :
  ∃ V0 V1 V2, Ev (fun k => spec_StruckOut.f k l0 l1 a1) (V0, V1, V2) ∧ Ev (fun k => impl_StruckOut.f k l0 l1 a1) (V0, V1, V2) ∧ V0.length ≤ 4 ∧ V1.length ≤ 4 ∧ ∀ i, (V1.getD i []).length ≤ 4 := by
 by_cases hb : okB l0 l1 = true
 ·obtain ⟨R, rfl, B⟩ := (Bk.of hb).tab
  have n4 := B.n4
  rw [hb] at ib sb
  have cs := circSpec_f B.bk sb
  have ci := circles_f B.bk
  have few := circ_few B.bk
  obtain ⟨g, hg⟩ : ∃ g, g = Circ.circI (mat l0.length R) l0.length := ⟨_, rfl⟩
  rw [← hg] at cs ci few
  have hw : wrap64 ((g.length : Int) - 1) = (g.length : Int) - 1 := by unfold wrap64; omega
  by_cases hin : 0 ≤ a1 ∧ a1 < (g.length : Int)
  ·obtain ⟨i, rfl⟩ : ∃ i : Nat, a1 = (i : Int) := ⟨a1.toNat, by omega⟩
   obtain ⟨p, e, hp, C⟩ := circ_at B.bk (i := i) (by rw [← hg]; omega)
   rw [← hg] at e
   have er : rd_L1 g (i : Int) = Circ.toI p := by rw [rdR_nat, e]
   have s1 : Ev (fun k => spec_StruckOut.f k l0 (mat l0.length R) (i : Int)) (l0, mat l0.length (struckR R p), true) := by
    refine Ev.congr (fun k => by unfold spec_StruckOut.f; rfl) (Ev.bind cs ?_)
    refine Ev.bind (l1In_is (b := true) (by rw [hw]; exact decide_eq_true ⟨hin.1, by omega⟩)) ?_
    refine evPos rfl (evPos (by omega) (evPos hin.2 ?_))
    rw [er]
    exact Ev.bind (strikeSpec_f B C) (Ev.now _)
   have s2 : Ev (fun k => impl_StruckOut.f k l0 (mat l0.length R) (i : Int)) (l0, mat l0.length (struckR R p), true) := by
    refine Ev.congr (fun k => by unfold impl_StruckOut.f; rfl) (Ev.bind ib (evPos rfl (Ev.bind ci ?_)))
    refine evNeg (by omega) (evNeg (by omega) (evPos (by omega) (evPos hin.2 ?_)))
    rw [er]
    exact Ev.bind (strikeImpl_f B C) (Ev.now _)
   exact ⟨_, _, true, s1, s2, n4, by rw [mat_len]; exact n4, fun i => Nat.le_trans (mat_rows _ _ i) n4⟩
  ·have s1 : Ev (fun k => spec_StruckOut.f k l0 (mat l0.length R) a1) ([], [], false) := by
    refine Ev.congr (fun k => by unfold spec_StruckOut.f; rfl) (Ev.bind cs ?_)
    refine Ev.bind (l1In_is (b := false) (by rw [hw]; exact decide_eq_false (fun h => hin ⟨h.1, by omega⟩))) ?_
    exact evNeg (by decide) (Ev.now _)
   have s2 : Ev (fun k => impl_StruckOut.f k l0 (mat l0.length R) a1) ([], [], false) := by
    refine Ev.congr (fun k => by unfold impl_StruckOut.f; rfl) (Ev.bind ib (evPos rfl (Ev.bind ci ?_)))
    by_cases h : a1 < 0
    ·exact evPos h (Ev.now _)
    ·exact evNeg h (evPos (by omega) (Ev.now _))
   exact ⟨[], [], false, s1, s2, by simp, by simp, by simp⟩
 ·have hf : okB l0 l1 = false := by simpa using hb
  rw [hf] at ib sb
  have s1 : Ev (fun k => spec_StruckOut.f k l0 l1 a1) ([], [], false) := by
   refine Ev.congr (fun k => by unfold spec_StruckOut.f; rfl) (Ev.bind (circSpec_no sb) ?_)
   refine Ev.bind (l1In_is (b := false) (by rw [show wrap64 (((([] : List (List Int)).length : Nat) : Int) - 1) = -1 by unfold wrap64; simp]; exact decide_eq_false (fun h => by omega))) ?_
   exact evNeg (by decide) (Ev.now _)
  have s2 : Ev (fun k => impl_StruckOut.f k l0 l1 a1) ([], [], false) := Ev.congr (fun k => by unfold impl_StruckOut.f; rfl) (Ev.bind ib (evNeg (show ¬ (false = true) by decide) (Ev.now _)))
  exact ⟨[], [], false, s1, s2, by simp, by simp, by simp⟩
theorem FnExactStruckOut (l0 : List Int) (l1 : List (List Int)) (h0 : l0.length ≤ maxLen) (h1 : l1.length ≤ maxLen) (w0 : ∀ x ∈ l0, (Lit.int .i64 x).wf = true) (w1 : ∀ r ∈ l1, r.length ≤ maxLen ∧ ∀ x ∈ r, (Lit.int .i64 x).wf = true) (a1 : Int) (wa : (Lit.int .i64 a1).wf = true) : ∃ k, laws_FnExactStruckOut.ok k l0 l1 a1 := by
 unfold maxLen at h0 h1
 obtain ⟨s, ⟨k1, hs⟩, hsz⟩ := szBook_f l0 l1 h0 h1 (getD_bound fun r hr => by have := (w1 r hr).1; unfold maxLen at this; exact this)
 by_cases hn : s < 0
 ·exact ⟨k1, s, hs k1 (Nat.le_refl _), .inl hn⟩
 obtain ⟨a, b, c⟩ := hsz hn
 have hr : ∀ i, (l1.getD i []).length ≤ 9223372036854775807 := fun i => by have := c i; omega
 obtain ⟨k2, tb⟩ := toBook_f l0 l1 a b c
 obtain ⟨k3, eb⟩ := eqBook_f l0 l1 h0 h1 hr
 obtain ⟨m1, ⟨k4, mb⟩, hm1⟩ := markBook_f l0 l1 a b c
 have ib := isBook_f l0 l1 h0 hr
 have sb := specBookOk_f l0 l1 h0 hr
 obtain ⟨V0, V1, V2, sp, im, g0, g1, g2⟩ : ∃ V0 V1 V2, Ev (fun k => spec_StruckOut.f k l0 l1 a1) (V0, V1, V2) ∧ Ev (fun k => impl_StruckOut.f k l0 l1 a1) (V0, V1, V2) ∧ V0.length ≤ 4 ∧ V1.length ≤ 4 ∧ ∀ i, (V1.getD i []).length ≤ 4 := struckOut_f ib sb a1 wa
 have gm := mem_bound g2
 have gt := totSS_le V1 gm
 obtain ⟨k5, sp⟩ := sp
 obtain ⟨k6, im⟩ := im
 obtain ⟨k7, eq⟩ := eqBook_f V0 V1 (by omega) (by omega) (fun i => by have := g2 i; omega)
 obtain ⟨k8, mg⟩ := markIntS_f V0 1 (by omega) (by omega)
 obtain ⟨k9, mg2⟩ := markSS_f V1 (1 + (V0.length : Int)) (by omega) (fun r hr => by have := gm r hr; omega) (by omega) (by omega)
 obtain ⟨k10, hg⟩ := heldBook_f V0 V1 (by omega) (by omega) (fun r hr => by have := gm r hr; omega)
 refine ⟨k1 + k2 + k3 + k4 + k5 + k6 + k7 + k8 + k9 + k10, s, hs _ (by omega), .inr ⟨hn, tb _ (by omega), eb _ (by omega), m1, 1 + (V0.length : Int), 1 + (V0.length : Int) + (totSS V1 : Int), V0, seqF 1 V0.length, V1, seqSS (1 + (V0.length : Int)) V1, V2, mb _ (by omega), hm1, sp _ (by omega), im _ (by omega), eq _ (by omega), mg _ (by omega), mg2 _ (by omega), hg _ (by omega), by omega⟩⟩

end Go.Proofs.Ythdncdfgonbfeaa.Pure
