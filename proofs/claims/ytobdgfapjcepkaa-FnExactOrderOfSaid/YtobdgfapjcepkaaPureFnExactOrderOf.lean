/- OrderOf of the program and of the reference return the same banks and the same bool, the book stays as it is, and the result shares no memory with it or with another result, for every book; no condition. -/
import Derived.Test.YtobdgfapjcepkaaOwnFnExactOrderOf
namespace Go.Proofs.Ytobdgfapjcepkaa.Pure
open Go.RowKit Go.Proofs.Ytobdgfapjcepkaa.QFnExactOrderOf Go.Proofs.YtobdgfapjcepkaaW.PrintWords Go.Proofs.YtobdgfapjcepkaaW.PrintLast Go.Proofs.YtobdgfapjcepkaaW.PrintMore
set_option linter.unusedVariables false
set_option linter.unusedSimpArgs false

theorem evPos {α : Type} {c : Prop} [Decidable c] {f g : Nat → Option α} {r : α} (h : c) (e : Ev f r) : Ev (fun k => if c then f k else g k) r := by
  simp only [if_pos h]; exact e
theorem evNeg {α : Type} {c : Prop} [Decidable c] {f g : Nat → Option α} {r : α} (h : ¬ c) (e : Ev g r) : Ev (fun k => if c then f k else g k) r := by
  simp only [if_neg h]; exact e
theorem evIs {α : Type} {g : Nat → Option α} {r r' : α} (e : Ev g r) (h : r = r') : Ev g r' := h ▸ e
theorem evIte {α : Type} {c : Prop} [Decidable c] {f g : Nat → Option α} {r : α} (e1 : c → Ev f r) (e2 : ¬ c → Ev g r) : Ev (fun k => if c then f k else g k) r := by
  by_cases h : c
  · exact evPos h (e1 h)
  · exact evNeg h (e2 h)
/-- What a number does, it does in one step more. -/
theorem w64 {j n : Nat} (h : j < n) (hn : n ≤ 9223372036854775807) : wrap64 ((j : Int) + 1) = ((j + 1 : Nat) : Int) := by unfold wrap64; omega
theorem rd_nat (xs : List Int) (j : Nat) : rd xs (j : Int) = xs.getD j 0 := by unfold rd; rw [Int.toNat_natCast]
theorem drop_step {α : Type} (xs : List α) (j : Nat) (z : α) (h : j < xs.length) : xs.drop j = xs.getD j z :: xs.drop (j + 1) := by
  rw [List.drop_eq_getElem_cons h, List.getD_eq_getElem?_getD, List.getElem?_eq_getElem h]; rfl
theorem drop_end {α : Type} (xs : List α) (j : Nat) (h : ¬ j < xs.length) : xs.drop j = [] := List.drop_eq_nil_of_le (by omega)
def debtOk (x : Int) : Bool := decide (0 ≤ x ∧ x ≤ 9)
def rowOk (c : List Int) (d : List (List Int)) (i : Nat) : Bool :=
  decide (0 ≤ c.getD i 0 ∧ c.getD i 0 ≤ 20) && ((d.getD i []).length == c.length) && ((d.getD i []).getD i 0 == 0) && (d.getD i []).all debtOk
/-- A book: what BookOk asks. -/
def okB (c : List Int) (d : List (List Int)) : Bool := decide (1 ≤ c.length ∧ c.length ≤ 4) && (d.length == c.length) && (List.range' 0 c.length).all (rowOk c d)
theorem range_step (i n : Nat) (h : i < n) : List.range' i (n - i) = i :: List.range' (i + 1) (n - (i + 1)) := by
  have : n - i = (n - (i + 1)) + 1 := by omega
  rw [this, List.range'_succ]
theorem range_end (i n : Nat) (h : ¬ i < n) : List.range' i (n - i) = [] := by
  have : n - i = 0 := by omega
  rw [this]; rfl
theorem rowOk_of {c : List Int} {d : List (List Int)} {i : Nat} (h1 : 0 ≤ c.getD i 0 ∧ c.getD i 0 ≤ 20) (h2 : (d.getD i []).length = c.length) (h3 : (d.getD i []).getD i 0 = 0) : rowOk c d i = (d.getD i []).all debtOk := by
  unfold rowOk; rw [decide_eq_true h1, beq_iff_eq.2 h2, beq_iff_eq.2 h3]; rfl
theorem rowOk_f1 {c : List Int} {d : List (List Int)} {i : Nat} (h1 : ¬ (0 ≤ c.getD i 0 ∧ c.getD i 0 ≤ 20)) : rowOk c d i = false := by
  unfold rowOk; rw [decide_eq_false h1]; rfl
theorem rowOk_f2 {c : List Int} {d : List (List Int)} {i : Nat} (h2 : ¬ (d.getD i []).length = c.length) : rowOk c d i = false := by
  unfold rowOk; rw [beq_eq_false_iff_ne.2 h2, Bool.and_false]; rfl
theorem rowOk_f3 {c : List Int} {d : List (List Int)} {i : Nat} (h3 : ¬ (d.getD i []).getD i 0 = 0) : rowOk c d i = false := by
  unfold rowOk; rw [beq_eq_false_iff_ne.2 h3, Bool.and_false]; rfl
theorem okB_of {c : List Int} {d : List (List Int)} (h1 : 1 ≤ c.length ∧ c.length ≤ 4) (h2 : d.length = c.length) : okB c d = (List.range' 0 c.length).all (rowOk c d) := by
  unfold okB; rw [decide_eq_true h1, beq_iff_eq.2 h2]; rfl
theorem okB_f1 {c : List Int} {d : List (List Int)} (h1 : ¬ (1 ≤ c.length ∧ c.length ≤ 4)) : okB c d = false := by
  unfold okB; rw [decide_eq_false h1]; rfl
theorem okB_f2 {c : List Int} {d : List (List Int)} (h2 : ¬ d.length = c.length) : okB c d = false := by
  unfold okB; rw [beq_eq_false_iff_ne.2 h2, Bool.and_false]; rfl
/-- What a book is like, row by row. -/
theorem okB_iff (c : List Int) (d : List (List Int)) : okB c d = true ↔ (1 ≤ c.length ∧ c.length ≤ 4) ∧ d.length = c.length ∧ ∀ i, i < c.length → (0 ≤ c.getD i 0 ∧ c.getD i 0 ≤ 20) ∧ (d.getD i []).length = c.length ∧ (d.getD i []).getD i 0 = 0 ∧ ∀ x ∈ d.getD i [], 0 ≤ x ∧ x ≤ 9 := by
  unfold okB
  rw [Bool.and_eq_true, Bool.and_eq_true, decide_eq_true_iff, beq_iff_eq, List.all_eq_true, and_assoc]
  refine and_congr_right fun _ => and_congr_right fun _ => ⟨fun h i hi => ?_, fun h i hi => ?_⟩
  · have h2 := h i (by rw [List.mem_range']; exact ⟨i, hi, by omega⟩)
    unfold rowOk at h2
    rw [Bool.and_eq_true, Bool.and_eq_true, Bool.and_eq_true, decide_eq_true_iff, beq_iff_eq, beq_iff_eq, List.all_eq_true] at h2
    exact ⟨h2.1.1.1, h2.1.1.2, h2.1.2, fun x hx => of_decide_eq_true (h2.2 x hx)⟩
  · obtain ⟨j, hj, rfl⟩ := List.mem_range'.1 hi
    have h2 := h (0 + 1 * j) (by omega)
    unfold rowOk
    rw [Bool.and_eq_true, Bool.and_eq_true, Bool.and_eq_true, decide_eq_true_iff, beq_iff_eq, beq_iff_eq, List.all_eq_true]
    exact ⟨⟨⟨h2.1, h2.2.1⟩, h2.2.2.1⟩, fun x hx => decide_eq_true (h2.2.2.2 x hx)⟩

theorem rdR_nat (xs : List (List Int)) (j : Nat) : rd_L1 xs (j : Int) = xs.getD j [] := by unfold rd_L1; rw [Int.toNat_natCast]

/-- The sum of numbers. -/
def sm : List Int → Int
  | [] => 0
  | x :: r => x + sm r
theorem sm_append (a b : List Int) : sm (a ++ b) = sm a + sm b := by
  induction a with
  | nil => simp [sm]
  | cons x r ih => simp only [List.cons_append, sm, ih]; omega
theorem take_snoc {α : Type} (xs : List α) (z : α) (j : Nat) (h : j < xs.length) : xs.take (j + 1) = xs.take j ++ [xs.getD j z] := by
  rw [List.take_add_one, List.getElem?_eq_getElem h, List.getD_eq_getElem?_getD, List.getElem?_eq_getElem h]; rfl
theorem sm_take (xs : List Int) (j : Nat) (h : j < xs.length) : sm (xs.take (j + 1)) = sm (xs.take j) + xs.getD j 0 := by
  rw [take_snoc xs 0 j h, sm_append]; simp [sm]
theorem sm_bound (xs : List Int) (b : Int) (h : ∀ x ∈ xs, 0 ≤ x ∧ x ≤ b) : 0 ≤ sm xs ∧ sm xs ≤ b * xs.length := by
  induction xs with
  | nil => simp [sm]
  | cons x r ih =>
    have h1 := h x (by simp)
    have h2 := ih fun y hy => h y (by simp [hy])
    simp only [sm, List.length_cons]
    have : b * ((r.length + 1 : Nat) : Int) = b * (r.length : Int) + b := by grind
    omega
theorem getD_mem {xs : List Int} {j : Nat} (h : j < xs.length) : xs.getD j 0 ∈ xs := by
  rw [List.getD_eq_getElem?_getD, List.getElem?_eq_getElem h]; exact List.getElem_mem h
theorem mid_set {α : Type} (A B : List α) (x y : α) (i : Nat) (h : A.length = i) : (A ++ x :: B).set i y = A ++ y :: B := by
  rw [List.set_append_right _ _ (by omega), h, Nat.sub_self]; rfl
theorem mid_get (A B : List Int) (x : Int) (i : Nat) (h : A.length = i) : (A ++ x :: B).getD i 0 = x := by
  rw [List.getD_eq_getElem?_getD, List.getElem?_append_right (by omega), h, Nat.sub_self]; rfl
theorem rmap_set {α : Type} (f : Nat → α) (n i : Nat) (y : α) : ((List.range n).map f).set i y = (List.range n).map fun j => if j = i then y else f j := by
  refine List.ext_getElem (by simp) fun j h1 h2 => ?_
  simp only [List.getElem_set, List.getElem_map, List.getElem_range]
  by_cases e : i = j
  · simp [e]
  · rw [if_neg e, if_neg (fun h => e h.symm)]
theorem rmap_get (f : Nat → Int) (n i : Nat) (h : i < n) : ((List.range n).map f).getD i 0 = f i := by
  rw [List.getD_eq_getElem?_getD, List.getElem?_map, List.getElem?_range h]; rfl
theorem rmap_congr {α : Type} {f g : Nat → α} {n : Nat} (h : ∀ j, j < n → f j = g j) : (List.range n).map f = (List.range n).map g :=
  List.map_congr_left fun j hj => h j (List.mem_range.1 hj)
theorem rmap_succ {α : Type} (f : Nat → α) (n : Nat) : (List.range (n + 1)).map f = (List.range n).map f ++ [f n] := by
  rw [List.range_succ, List.map_append]; rfl
/-- What a bank owes in all; what it is owed, by the first i banks. -/
def owesI (d : List (List Int)) (i : Nat) : Int := sm (d.getD i [])
def owedI (d : List (List Int)) (i j : Nat) : Int := sm ((d.take i).map fun r => r.getD j 0)
def owesV (d : List (List Int)) (n : Nat) : List Int := (List.range n).map (owesI d)
def owedV (d : List (List Int)) (n : Nat) : List Int := (List.range n).map (owedI d n)
def netsV (d : List (List Int)) (n : Nat) : List Int := (List.range n).map fun i => owedI d n i - owesI d i
theorem owedI_succ (d : List (List Int)) (i j : Nat) (h : i < d.length) : owedI d (i + 1) j = owedI d i j + (d.getD i []).getD j 0 := by
  unfold owedI
  rw [take_snoc d [] i h, List.map_append, sm_append]
  simp [sm]
/-- The facts of a book, as they are used. -/
structure Bk (c : List Int) (d : List (List Int)) : Prop where
  n1 : 1 ≤ c.length
  n4 : c.length ≤ 4
  hd : d.length = c.length
  hr : ∀ i, i < c.length → (d.getD i []).length = c.length
  he : ∀ i, i < c.length → ∀ x ∈ d.getD i [], 0 ≤ x ∧ x ≤ 9
  hz : ∀ i, i < c.length → (d.getD i []).getD i 0 = 0
  hc : ∀ i, i < c.length → 0 ≤ c.getD i 0 ∧ c.getD i 0 ≤ 20
theorem Bk.of {c : List Int} {d : List (List Int)} (h : okB c d = true) : Bk c d := by
  obtain ⟨⟨a1, a2⟩, a3, a4⟩ := (okB_iff c d).1 h
  exact ⟨a1, a2, a3, fun i hi => (a4 i hi).2.1, fun i hi => (a4 i hi).2.2.2, fun i hi => (a4 i hi).2.2.1, fun i hi => (a4 i hi).1⟩
theorem Bk.ent {c : List Int} {d : List (List Int)} (h : Bk c d) {i j : Nat} (hi : i < c.length) (hj : j < c.length) : 0 ≤ (d.getD i []).getD j 0 ∧ (d.getD i []).getD j 0 ≤ 9 :=
  h.he i hi _ (getD_mem (by rw [h.hr i hi]; exact hj))
theorem Bk.row_take {c : List Int} {d : List (List Int)} (h : Bk c d) {i : Nat} (hi : i < c.length) (j : Nat) : 0 ≤ sm ((d.getD i []).take j) ∧ sm ((d.getD i []).take j) ≤ 36 := by
  have h1 := sm_bound ((d.getD i []).take j) 9 fun x hx => h.he i hi x (List.mem_of_mem_take hx)
  have h2 : ((d.getD i []).take j).length ≤ 4 := by have := h.hr i hi; have := h.n4; rw [List.length_take]; omega
  omega
theorem Bk.owes_bound {c : List Int} {d : List (List Int)} (h : Bk c d) {i : Nat} (hi : i < c.length) : 0 ≤ owesI d i ∧ owesI d i ≤ 36 := by
  have := h.row_take hi (d.getD i []).length
  rw [List.take_length] at this; exact this
theorem Bk.owed_bound {c : List Int} {d : List (List Int)} (h : Bk c d) {j : Nat} (hj : j < c.length) : ∀ i, i ≤ c.length → 0 ≤ owedI d i j ∧ owedI d i j ≤ 9 * i
  | 0, _ => by simp [owedI, sm]
  | i + 1, hi => by
    have h1 := h.owed_bound hj i (by omega)
    have h2 := h.ent (i := i) (by omega) hj
    rw [owedI_succ d i j (by rw [h.hd]; omega)]
    omega

theorem getD_bound {d : List (List Int)} {n : Nat} (h : ∀ r ∈ d, r.length ≤ n) (i : Nat) : (d.getD i []).length ≤ n := by
  rw [List.getD_eq_getElem?_getD]
  by_cases hi : i < d.length
  · rw [List.getElem?_eq_getElem hi]; exact h _ (List.getElem_mem hi)
  · rw [List.getElem?_eq_none (by omega)]; simp

theorem l1In_b (n a b : Int) : spec_l1In.f n a b = some (decide (a ≤ n ∧ n ≤ b)) := by
  unfold spec_l1In.f
  by_cases h : n ≥ a
  · rw [if_pos h]; congr 1; rw [Bool.eq_iff_iff, decide_eq_true_iff, decide_eq_true_iff]; omega
  · rw [if_neg h]; congr 1; symm; exact decide_eq_false (by omega)
theorem specBookOk_l1 (c : List Int) (d : List (List Int)) (i : Nat) (hi : i < d.length) (hr : (d.getD i []).length ≤ 9223372036854775807) (r : Bool) (hn : Ev (fun k => spec_BookOk.l0 k (wrap64 ((i : Int) + 1)) c d) r) :
    ∀ (m j : Nat), j + m = (d.getD i []).length → Ev (fun k => spec_BookOk.l1 k (i : Int) (j : Int) c d) (((d.getD i []).drop j).all debtOk && r)
  | 0, j => fun h => by
    rw [drop_end _ _ (by omega)]
    refine Ev.step (fun k => ?_) hn
    simp only [spec_BookOk.l1]
    rw [rdR_nat, if_pos (by omega), if_pos (by omega), if_neg (by omega)]
  | m + 1, j => fun h => by
    rw [drop_step _ j 0 (by omega), List.all_cons]
    have ih := specBookOk_l1 c d i hi hr r hn m (j + 1) (by omega)
    have hstep : ∀ k, spec_BookOk.l1 (k + 1) (i : Int) (j : Int) c d = if debtOk ((d.getD i []).getD j 0) = true then spec_BookOk.l1 k (i : Int) ((j + 1 : Nat) : Int) c d else some false := by
      intro k
      simp only [spec_BookOk.l1]
      rw [rdR_nat, if_pos (by omega), if_pos (by omega), if_pos (by omega), if_pos (by omega), rd_nat, l1In_b, w64 (show j < (d.getD i []).length by omega) hr]
      rfl
    refine Ev.step hstep ?_
    cases hb : debtOk ((d.getD i []).getD j 0) with
    | true => exact evPos rfl (by simpa using ih)
    | false => exact evNeg (by simp) (by simpa using Ev.now false)
theorem specBookOk_l0 (c : List Int) (d : List (List Int)) (hc : c.length ≤ 9223372036854775807) (hd : d.length = c.length) (hr : ∀ i, (d.getD i []).length ≤ 9223372036854775807) :
    ∀ (m i : Nat), i + m = c.length → Ev (fun k => spec_BookOk.l0 k (i : Int) c d) ((List.range' i (c.length - i)).all (rowOk c d))
  | 0, i => fun h => by
    rw [range_end _ _ (by omega)]
    refine Ev.step (f := fun _ => some true) (fun k => ?_) (Ev.now true)
    simp only [spec_BookOk.l0]
    rw [if_neg (by omega)]
  | m + 1, i => fun h => by
    rw [range_step _ _ (by omega), List.all_cons]
    have ih := specBookOk_l0 c d hc hd hr m (i + 1) (by omega)
    rw [← w64 (show i < c.length by omega) hc] at ih
    refine Ev.step (fun k => by simp only [spec_BookOk.l0]; rfl) ?_
    rw [rdR_nat]
    simp only [rd_nat, l1In_b, Option.bind_some]
    refine evPos (by omega) (evPos (by omega) ?_)
    have fin : ∀ b : Bool, b = true → Ev (fun k => spec_BookOk.j2 k (i : Int) b c d) false := fun b hb => by
      refine Ev.step (f := fun _ => some false) (fun k => ?_) (Ev.now false)
      simp only [spec_BookOk.j2]
      rw [if_pos hb]
    by_cases h1 : 0 ≤ c.getD i 0 ∧ c.getD i 0 ≤ 20
    · refine evPos (decide_eq_true_iff.2 h1) (evPos (by omega) ?_)
      by_cases h2 : (d.getD i []).length = c.length
      · refine evPos (by omega) (evPos (by omega) ?_)
        by_cases h3 : (d.getD i []).getD i 0 = 0
        · have l1 := specBookOk_l1 c d i (by omega) (hr i) _ ih (d.getD i []).length 0 (by omega)
          refine Ev.step (f := fun k => spec_BookOk.l1 k (i : Int) ((0 : Nat) : Int) c d) (fun k => ?_) (evIs l1 ?_)
          · simp only [spec_BookOk.j2]
            rw [if_neg (by simpa using h3)]; rfl
          · rw [rowOk_of h1 h2 h3, List.drop_zero]
        · exact evIs (fin _ (by simpa using h3)) (by rw [rowOk_f3 h3, Bool.false_and])
      · exact evNeg (by omega) (evIs (fin _ rfl) (by rw [rowOk_f2 h2, Bool.false_and]))
    · exact evNeg (fun h => h1 (decide_eq_true_iff.1 h)) (evIs (fin _ rfl) (by rw [rowOk_f1 h1, Bool.false_and]))
theorem specBookOk_f (c : List Int) (d : List (List Int)) (hc : c.length ≤ 9223372036854775807) (hr : ∀ i, (d.getD i []).length ≤ 9223372036854775807) : Ev (fun k => spec_BookOk.f k c d) (okB c d) := by
  refine Ev.congr (fun k => by unfold spec_BookOk.f; rw [l1In_b, Option.bind_some]) ?_
  have fin : ∀ b : Bool, b = true → Ev (fun k => spec_BookOk.j0 k b c d) false := fun b hb => by
    refine Ev.step (f := fun _ => some false) (fun k => ?_) (Ev.now false)
    simp only [spec_BookOk.j0]
    rw [if_pos hb]
  by_cases h1 : 1 ≤ c.length ∧ c.length ≤ 4
  · refine evPos (decide_eq_true_iff.2 (by omega)) ?_
    by_cases h2 : d.length = c.length
    · have l0 := specBookOk_l0 c d hc h2 hr c.length 0 (by omega)
      refine Ev.step (f := fun k => spec_BookOk.l0 k ((0 : Nat) : Int) c d) (fun k => ?_) (evIs l0 ?_)
      · simp only [spec_BookOk.j0]
        rw [if_neg (by simp [h2])]; rfl
      · rw [okB_of h1 h2]; rfl
    · exact evIs (fin _ (by simp; omega)) (by rw [okB_f2 h2])
  · exact evNeg (fun h => by have := decide_eq_true_iff.1 h; omega) (evIs (fin _ rfl) (by rw [okB_f1 h1]))

theorem isBook_l1 (c : List Int) (d : List (List Int)) (n D I : Int) (row : List Int) (hr : row.length ≤ 9223372036854775807) (r : Bool) (hn : Ev (fun k => impl_isBook.l0 k n d D (wrap64 (I + 1)) c d) r) :
    ∀ (m j : Nat), j + m = row.length → Ev (fun k => impl_isBook.l1 k n d D I row (row.length : Int) (j : Int) c d) ((row.drop j).all debtOk && r)
  | 0, j => fun h => by
    rw [drop_end _ _ (by omega)]
    refine Ev.step (fun k => ?_) hn
    simp only [impl_isBook.l1]
    rw [if_neg (by omega)]
  | m + 1, j => fun h => by
    rw [drop_step _ j 0 (by omega), List.all_cons]
    have ih := isBook_l1 c d n D I row hr r hn m (j + 1) (by omega)
    have hstep : ∀ k, impl_isBook.l1 (k + 1) n d D I row (row.length : Int) (j : Int) c d = if debtOk (row.getD j 0) = true then impl_isBook.l1 k n d D I row (row.length : Int) ((j + 1 : Nat) : Int) c d else some false := by
      intro k
      simp only [impl_isBook.l1]
      rw [if_pos (by omega), if_pos (by omega), if_pos (by omega), rd_nat, w64 (show j < row.length by omega) hr]
      unfold debtOk
      by_cases a : row.getD j 0 < 0
      · rw [if_pos a, if_neg (by rw [decide_eq_true_iff]; omega)]
      · by_cases b : row.getD j 0 > 9
        · rw [if_neg a, if_pos b, if_neg (by rw [decide_eq_true_iff]; omega)]
        · rw [if_neg a, if_neg b, if_pos (by rw [decide_eq_true_iff]; omega)]
    refine Ev.step hstep ?_
    cases hb : debtOk (row.getD j 0) with
    | true => exact evPos rfl (by simpa using ih)
    | false => exact evNeg (by simp) (by simpa using Ev.now false)
theorem isBook_l0 (c : List Int) (d : List (List Int)) (hc : c.length ≤ 9223372036854775807) (hd : d.length = c.length) (hr : ∀ i, (d.getD i []).length ≤ 9223372036854775807) :
    ∀ (m i : Nat), i + m = c.length → Ev (fun k => impl_isBook.l0 k (c.length : Int) d (d.length : Int) (i : Int) c d) ((List.range' i (c.length - i)).all (rowOk c d))
  | 0, i => fun h => by
    rw [range_end _ _ (by omega)]
    refine Ev.step (f := fun _ => some true) (fun k => ?_) (Ev.now true)
    simp only [impl_isBook.l0]
    rw [if_neg (by omega)]
  | m + 1, i => fun h => by
    rw [range_step _ _ (by omega), List.all_cons]
    have ih := isBook_l0 c d hc hd hr m (i + 1) (by omega)
    rw [← w64 (show i < c.length by omega) hc] at ih
    refine Ev.step (fun k => by simp only [impl_isBook.l0]; rfl) ?_
    rw [rdR_nat]
    simp only [rd_nat]
    refine evPos (by omega) (evPos (by omega) (evPos (by omega) (evPos (by omega) ?_)))
    have fin : ∀ b : Bool, b = true → Ev (fun k => impl_isBook.j2 k (c.length : Int) (d.getD i []) d (d.length : Int) (i : Int) b c d) false := fun b hb => by
      refine Ev.step (f := fun _ => some false) (fun k => ?_) (Ev.now false)
      simp only [impl_isBook.j2]
      rw [if_pos hb]
    by_cases h1 : c.getD i 0 < 0
    · refine evPos h1 (evIs (fin _ rfl) ?_)
      rw [rowOk_f1 (by omega), Bool.false_and]
    refine evNeg h1 ?_
    by_cases h2 : c.getD i 0 > 20
    · refine evPos h2 (evIs (fin _ rfl) ?_)
      rw [rowOk_f1 (by omega), Bool.false_and]
    refine evNeg h2 ?_
    have h12 : 0 ≤ c.getD i 0 ∧ c.getD i 0 ≤ 20 := by omega
    by_cases h3 : (d.getD i []).length = c.length
    · refine evPos (by omega) (evPos (by omega) ?_)
      by_cases h4 : (d.getD i []).getD i 0 = 0
      · have l1 := isBook_l1 c d (c.length : Int) (d.length : Int) (i : Int) (d.getD i []) (hr i) _ ih (d.getD i []).length 0 (by omega)
        refine Ev.step (f := fun k => impl_isBook.l1 k (c.length : Int) d (d.length : Int) (i : Int) (d.getD i []) ((d.getD i []).length : Int) ((0 : Nat) : Int) c d) (fun k => ?_) (evIs l1 ?_)
        · simp only [impl_isBook.j2]
          rw [if_neg (by simpa using h4)]; rfl
        · rw [rowOk_of h12 h3 h4, List.drop_zero]
      · exact evIs (fin _ (by simpa using h4)) (by rw [rowOk_f3 h4, Bool.false_and])
    · exact evNeg (by omega) (evIs (fin _ rfl) (by rw [rowOk_f2 h3, Bool.false_and]))
theorem isBook_f (c : List Int) (d : List (List Int)) (hc : c.length ≤ 9223372036854775807) (hr : ∀ i, (d.getD i []).length ≤ 9223372036854775807) : Ev (fun k => impl_isBook.f k c d) (okB c d) := by
  refine Ev.congr (fun k => by unfold impl_isBook.f; rfl) ?_
  have fin : ∀ b : Bool, b = true → Ev (fun k => impl_isBook.j0 k (c.length : Int) b c d) false := fun b hb => by
    refine Ev.step (f := fun _ => some false) (fun k => ?_) (Ev.now false)
    simp only [impl_isBook.j0]
    rw [if_pos hb]
  by_cases h1 : (c.length : Int) < 1
  · exact evPos h1 (evIs (fin _ rfl) (by rw [okB_f1 (by omega)]))
  refine evNeg h1 ?_
  by_cases h2 : (c.length : Int) > 4
  · exact evPos h2 (evIs (fin _ rfl) (by rw [okB_f1 (by omega)]))
  refine evNeg h2 ?_
  have h12 : 1 ≤ c.length ∧ c.length ≤ 4 := by omega
  by_cases h3 : d.length = c.length
  · have l0 := isBook_l0 c d hc h3 hr c.length 0 (by omega)
    refine Ev.step (f := fun k => impl_isBook.l0 k (c.length : Int) d (d.length : Int) ((0 : Nat) : Int) c d) (fun k => ?_) (evIs l0 ?_)
    · simp only [impl_isBook.j0]
      rw [if_neg (by simp [h3])]; rfl
    · rw [okB_of h12 h3]; rfl
  · exact evIs (fin _ (by simp; omega)) (by rw [okB_f2 h3])

theorem szIntS_f (l : List Int) (a : Int) (ha : -1 ≤ a ∧ a ≤ 1048576) (hl : l.length ≤ 9223372036854775807) : laws_szIntS.f l a = some (if a - (l.length : Int) < 0 then -1 else a - (l.length : Int)) := by
  unfold laws_szIntS.f
  have w : wrap64 (a - (l.length : Int)) = a - (l.length : Int) := by unfold wrap64; omega
  rw [w]; split <;> rfl
theorem szIntSS_l0 (d : List (List Int)) (hd : d.length ≤ 9223372036854775807) (hr : ∀ i, (d.getD i []).length ≤ 9223372036854775807) :
    ∀ (m i : Nat) (a : Int), i + m = d.length → 0 ≤ a ∧ a ≤ 1048576 → ∃ t, Ev (fun k => laws_szIntSS.l0 k d a (i : Int)) t ∧ -1 ≤ t ∧ t ≤ 1048576 ∧ (0 ≤ t → ∀ j, i ≤ j → j < d.length → (d.getD j []).length ≤ 1048576)
  | 0, i, a => fun h ha => by
    refine ⟨a, Ev.step (f := fun _ => some a) (fun k => ?_) (Ev.now a), by omega, by omega, fun _ j h1 h2 => by omega⟩
    simp only [laws_szIntSS.l0]
    rw [if_neg (by omega)]
  | m + 1, i, a => fun h ha => by
    have hs : ∀ k, laws_szIntSS.l0 (k + 1) d a (i : Int) = if a - ((d.getD i []).length : Int) < 0 then some (-1) else laws_szIntSS.l0 k d (a - ((d.getD i []).length : Int)) ((i + 1 : Nat) : Int) := by
      intro k
      simp only [laws_szIntSS.l0]
      rw [if_pos (by omega), if_pos (by omega), rdR_nat, szIntS_f _ _ (by omega) (hr i), w64 (show i < d.length by omega) hd]
      simp only [Option.bind_some]
      by_cases hn : a - ((d.getD i []).length : Int) < 0
      · rw [if_pos hn, if_pos (by omega), if_pos hn]
      · rw [if_neg hn, if_neg hn]
    by_cases hn : a - ((d.getD i []).length : Int) < 0
    · exact ⟨-1, Ev.step hs (evPos hn (Ev.now _)), by omega, by omega, fun h => by omega⟩
    · obtain ⟨t, h1, h2, h3, h4⟩ := szIntSS_l0 d hd hr m (i + 1) (a - ((d.getD i []).length : Int)) (by omega) (by omega)
      refine ⟨t, Ev.step hs (evNeg hn h1), h2, h3, fun h0 j j1 j2 => ?_⟩
      by_cases e : j = i
      · subst e; omega
      · exact h4 h0 j (by omega) j2
theorem szBook_f (c : List Int) (d : List (List Int)) (hc : c.length ≤ 9223372036854775807) (hd : d.length ≤ 9223372036854775807) (hr : ∀ i, (d.getD i []).length ≤ 9223372036854775807) :
    ∃ t, Ev (fun k => laws_szBook.f k c d 1048576) t ∧ (¬ t < 0 → c.length ≤ 1048576 ∧ d.length ≤ 1048576 ∧ ∀ j, (d.getD j []).length ≤ 1048576) := by
  have hs : ∀ k, laws_szBook.f k c d 1048576 = if 1048576 - (c.length : Int) < 0 then some (-1) else (laws_szIntSS.f k d (1048576 - (c.length : Int))).bind fun t => if t < 0 then some (-1) else some t := by
    intro k
    unfold laws_szBook.f
    rw [szIntS_f _ _ (by omega) hc]
    simp only [Option.bind_some]
    by_cases hn : 1048576 - (c.length : Int) < 0
    · rw [if_pos hn, if_pos (by omega), if_pos hn]
    · rw [if_neg hn, if_neg hn]
  by_cases hn : 1048576 - (c.length : Int) < 0
  · exact ⟨-1, Ev.congr hs (evPos hn (Ev.now _)), fun h => by omega⟩
  · have w : wrap64 (1048576 - (c.length : Int) - (d.length : Int)) = 1048576 - (c.length : Int) - (d.length : Int) := by unfold wrap64; omega
    by_cases hm : 1048576 - (c.length : Int) - (d.length : Int) < 0
    · refine ⟨-1, Ev.congr hs (evNeg hn (Ev.bind (a := -1) (Ev.congr (fun k => by unfold laws_szIntSS.f; rw [w]) (evPos hm (Ev.now _))) (evPos (by omega) (Ev.now _)))), fun h => by omega⟩
    · obtain ⟨t, h1, h2, h3, h4⟩ := szIntSS_l0 d hd hr d.length 0 (1048576 - (c.length : Int) - (d.length : Int)) (by omega) (by omega)
      refine ⟨if t < 0 then -1 else t, Ev.congr hs (evNeg hn (Ev.bind (a := t) (Ev.congr (fun k => by unfold laws_szIntSS.f; rw [w, if_neg hm]; rfl) h1) ?_)), fun h => ⟨by omega, by omega, fun j => ?_⟩⟩
      · split <;> exact Ev.now _
      · have ht : 0 ≤ t := by split at h <;> omega
        by_cases hj : j < d.length
        · exact h4 ht j (by omega) hj
        · rw [List.getD_eq_getElem?_getD, List.getElem?_eq_none (by omega)]; simp

theorem fill_step {α : Type} (xs : List α) (z y : α) (i : Nat) (h : i < xs.length) : (xs.take i ++ List.replicate (xs.length - i) z).set i (xs.getD i y) = xs.take (i + 1) ++ List.replicate (xs.length - (i + 1)) z := by
  have hl : (xs.take i).length = i := by simp; omega
  rw [List.set_append_right _ _ (by omega), hl, Nat.sub_self]
  have : xs.length - i = (xs.length - (i + 1)) + 1 := by omega
  rw [this, List.replicate_succ, List.set_cons_zero, List.take_add_one, List.getElem?_eq_getElem h, List.getD_eq_getElem?_getD, List.getElem?_eq_getElem h, List.append_assoc]
  rfl
theorem toIntS_l0 (l : List Int) (hl : l.length ≤ 1048576) : ∀ (m i : Nat), i + m = l.length → Ev (fun k => laws_toIntS.l0 k l (l.take i ++ List.replicate (l.length - i) 0) (i : Int)) l
  | 0, i => fun h => by
    refine Ev.step (f := fun _ => some l) (fun k => ?_) (Ev.now l)
    simp only [laws_toIntS.l0]
    rw [if_neg (by omega), List.take_of_length_le (by omega), show l.length - i = 0 by omega]
    simp
  | m + 1, i => fun h => by
    refine Ev.step (fun k => ?_) (toIntS_l0 l hl m (i + 1) (by omega))
    simp only [laws_toIntS.l0]
    rw [if_pos (by omega), if_pos (by omega), if_pos (by simp; omega), rd_nat, Int.toNat_natCast, fill_step _ _ _ _ (by omega), w64 (show i < l.length by omega) (by omega)]
theorem toIntS_f (l : List Int) (hl : l.length ≤ 1048576) : Ev (fun k => laws_toIntS.f k l) l := by
  refine Ev.congr (fun k => ?_) (toIntS_l0 l hl l.length 0 (by omega))
  unfold laws_toIntS.f
  rw [if_pos (by omega), if_pos (by omega)]
  rfl
theorem toIntSS_l0 (l : List (List Int)) (hl : l.length ≤ 1048576) (hr : ∀ i, (l.getD i []).length ≤ 1048576) : ∀ (m i : Nat), i + m = l.length → Ev (fun k => laws_toIntSS.l0 k l (l.take i ++ List.replicate (l.length - i) []) (i : Int)) l
  | 0, i => fun h => by
    refine Ev.step (f := fun _ => some l) (fun k => ?_) (Ev.now l)
    simp only [laws_toIntSS.l0]
    rw [if_neg (by omega), List.take_of_length_le (by omega), show l.length - i = 0 by omega]
    simp
  | m + 1, i => fun h => by
    refine Ev.step (fun k => ?_) (Ev.bind (f := fun k t => laws_toIntSS.l0 k l ((l.take i ++ List.replicate (l.length - i) []).set i t) ((i + 1 : Nat) : Int)) (toIntS_f (l.getD i []) (hr i)) ?_)
    · simp only [laws_toIntSS.l0]
      rw [if_pos (by omega), if_pos (by omega), rdR_nat, w64 (show i < l.length by omega) (by omega)]
      congr 1
      funext t
      rw [if_pos (by simp; omega), Int.toNat_natCast]
    · rw [fill_step _ _ _ _ (by omega)]
      exact toIntSS_l0 l hl hr m (i + 1) (by omega)
theorem toIntSS_f (l : List (List Int)) (hl : l.length ≤ 1048576) (hr : ∀ i, (l.getD i []).length ≤ 1048576) : Ev (fun k => laws_toIntSS.f k l) l := by
  refine Ev.congr (fun k => ?_) (toIntSS_l0 l hl hr l.length 0 (by omega))
  unfold laws_toIntSS.f
  rw [if_pos (by omega), if_pos (by omega)]
  rfl
theorem toBook_f (c : List Int) (d : List (List Int)) (hc : c.length ≤ 1048576) (hd : d.length ≤ 1048576) (hr : ∀ i, (d.getD i []).length ≤ 1048576) : Ev (fun k => laws_toBook.f k c d) (c, d) :=
  Ev.congr (fun k => by unfold laws_toBook.f; rfl) (Ev.bind (toIntS_f c hc) (Ev.bind (toIntSS_f d hd hr) (Ev.now (c, d))))

theorem eqIntS_l0 (l : List Int) (hl : l.length ≤ 9223372036854775807) : ∀ (m i : Nat), i + m = l.length → Ev (fun k => laws_eqIntS.l0 k l l (i : Int)) true
  | 0, i => fun h => by
    refine Ev.step (f := fun _ => some true) (fun k => ?_) (Ev.now true)
    simp only [laws_eqIntS.l0]
    rw [if_neg (by omega)]
  | m + 1, i => fun h => by
    refine Ev.step (fun k => ?_) (eqIntS_l0 l hl m (i + 1) (by omega))
    simp only [laws_eqIntS.l0]
    rw [if_pos (by omega), if_pos (by omega), if_pos (by omega), if_pos trivial, w64 (show i < l.length by omega) hl]
theorem eqIntS_f (l : List Int) (hl : l.length ≤ 9223372036854775807) : Ev (fun k => laws_eqIntS.f k l l) true := by
  refine Ev.congr (fun k => ?_) (eqIntS_l0 l hl l.length 0 (by omega))
  unfold laws_eqIntS.f
  rw [if_pos rfl]; rfl

theorem eqIntSS_l0 (l : List (List Int)) (hl : l.length ≤ 9223372036854775807) (hr : ∀ i, (l.getD i []).length ≤ 9223372036854775807) : ∀ (m i : Nat), i + m = l.length → Ev (fun k => laws_eqIntSS.l0 k l l (i : Int)) true
  | 0, i => fun h => by
    refine Ev.step (f := fun _ => some true) (fun k => ?_) (Ev.now true)
    simp only [laws_eqIntSS.l0]
    rw [if_neg (by omega)]
  | m + 1, i => fun h => by
    have ih := eqIntSS_l0 l hl hr m (i + 1) (by omega)
    refine Ev.step (f := fun k => (laws_eqIntS.f k (l.getD i []) (l.getD i [])).bind fun t => if t = true then laws_eqIntSS.l0 k l l ((i + 1 : Nat) : Int) else some false) (fun k => ?_) (Ev.bind (eqIntS_f _ (hr i)) (evPos rfl ih))
    simp only [laws_eqIntSS.l0]
    rw [if_pos (by omega), if_pos (by omega), if_pos (by omega), rdR_nat, w64 (show i < l.length by omega) hl]
theorem eqIntSS_f (l : List (List Int)) (hl : l.length ≤ 9223372036854775807) (hr : ∀ i, (l.getD i []).length ≤ 9223372036854775807) : Ev (fun k => laws_eqIntSS.f k l l) true := by
  refine Ev.congr (fun k => ?_) (eqIntSS_l0 l hl hr l.length 0 (by omega))
  unfold laws_eqIntSS.f
  rw [if_pos rfl]; rfl
theorem eqBook_f (c : List Int) (d : List (List Int)) (hc : c.length ≤ 9223372036854775807) (hd : d.length ≤ 9223372036854775807) (hr : ∀ i, (d.getD i []).length ≤ 9223372036854775807) : Ev (fun k => laws_eqBook.f k c d c d) true :=
  Ev.congr (fun k => by unfold laws_eqBook.f; rfl) (Ev.bind (eqIntS_f c hc) (evPos rfl (Ev.bind (eqIntSS_f d hd hr) (evPos rfl (Ev.now _)))))

/-- A bank that is left, to which no other one that is left owes anything. -/
def freeB (d : List (List Int)) (n : Nat) (out : List Int) (i : Nat) : Prop := (i : Int) ∉ out ∧ ∀ j, j < n → (j : Int) ∈ out ∨ (d.getD j []).getD i 0 = 0
theorem index_l0 (xs : List Int) (x : Int) (hl : xs.length ≤ 1000) : ∀ (m i : Nat), i + m = xs.length → (∀ j, j < i → xs.getD j 0 ≠ x) → ∃ r : Int, Ev (fun k => slices_Index_int_int.l0 k xs x (xs.length : Int) (i : Int)) r ∧ (0 ≤ r ↔ x ∈ xs)
  | 0, i, h, hn => by
    refine ⟨-1, Ev.step (fun k => by rw [slices_Index_int_int.l0]) (evNeg (by omega) (Ev.now _)), ⟨fun a => by omega, fun a => ?_⟩⟩
    obtain ⟨j, hj, e⟩ := List.mem_iff_getElem.1 a
    exact absurd (by rw [List.getD_eq_getElem?_getD, List.getElem?_eq_getElem hj]; exact e) (hn j (by omega))
  | m + 1, i, h, hn => by
    by_cases e : xs.getD i 0 = x
    · refine ⟨(i : Int), Ev.step (fun k => by rw [slices_Index_int_int.l0]) (evPos (by omega) (evPos (by omega) (evPos (by omega) (evPos (by rw [rd_nat]; exact e.symm) (Ev.now _))))), ⟨fun _ => ?_, fun _ => by omega⟩⟩
      rw [← e]; exact getD_mem (by omega)
    · obtain ⟨r, hr, hi⟩ := index_l0 xs x hl m (i + 1) (by omega) (fun j hj => by
        by_cases e2 : j = i
        · subst e2; exact e
        · exact hn j (by omega))
      refine ⟨r, Ev.step (fun k => by rw [slices_Index_int_int.l0]) (evPos (by omega) (evPos (by omega) (evPos (by omega) (evNeg (by rw [rd_nat]; exact fun a => e a.symm) ?_)))), hi⟩
      rw [w64 (show i < xs.length by omega) (by omega)]
      exact hr
theorem contains_f (xs : List Int) (x : Int) (hl : xs.length ≤ 1000) : Ev (fun k => slices_Contains_int_int.f k xs x) (decide (x ∈ xs)) := by
  obtain ⟨r, hr, hi⟩ := index_l0 xs x hl xs.length 0 (by omega) (fun j hj => by omega)
  refine Ev.congr (fun k => by unfold slices_Contains_int_int.f; rfl) (Ev.bind (Ev.congr (fun k => by unfold slices_Index_int_int.f; rfl) hr) (evIs (Ev.now _) ?_))
  exact decide_eq_decide.2 hi
theorem ordImpl_no {c : List Int} {d : List (List Int)} (B : Bk c d) {out : List Int} {i : Nat} (hi : i < c.length) {res : List Int × Bool} (e : Ev (fun k => impl_OrderOf.l1 k out (-1) (c.length : Int) ((i + 1 : Nat) : Int) c d) res) :
    ∀ m j, j + m = c.length → Ev (fun k => impl_OrderOf.l2 k out (-1) (i : Int) false (c.length : Int) (i : Int) d (d.length : Int) (j : Int) c d) res
  | 0, j, hj => by
    have hd := B.hd
    have n4 := B.n4
    exact Ev.step (fun k => by rw [impl_OrderOf.l2]) (evNeg (by omega) (evNeg (by simp) (by rw [w64 hi (by omega)]; exact e)))
  | m + 1, j, hj => by
    have hd := B.hd
    have n4 := B.n4
    refine Ev.step (fun k => by rw [impl_OrderOf.l2]) (evPos (by omega) (evPos (by omega) (evPos (by omega) (evNeg (by simp) ?_))))
    rw [w64 (show j < c.length by omega) (by omega)]
    exact ordImpl_no B hi e m (j + 1) (by omega)
theorem ordImpl_all {c : List Int} {d : List (List Int)} (B : Bk c d) {out : List Int} (ho : out.length ≤ 4) {i : Nat} (hi : i < c.length) {res : List Int × Bool} (e : Ev (fun k => impl_OrderOf.l0 k (out ++ [(i : Int)]) c d) res) :
    ∀ m j, j + m = c.length → (∀ q, j ≤ q → q < c.length → (q : Int) ∈ out ∨ (d.getD q []).getD i 0 = 0) → Ev (fun k => impl_OrderOf.l2 k out (-1) (i : Int) true (c.length : Int) (i : Int) d (d.length : Int) (j : Int) c d) res
  | 0, j, hj, hP => by
    have hd := B.hd
    exact Ev.step (fun k => by rw [impl_OrderOf.l2]) (evNeg (by omega) (evPos rfl (evNeg (by omega) (evPos (by omega) e))))
  | m + 1, j, hj, hP => by
    have hd := B.hd
    have n4 := B.n4
    have hjn : j < c.length := by omega
    have hr := B.hr j hjn
    have ih := ordImpl_all B ho hi e m (j + 1) (by omega) (fun q h1 h2 => hP q (by omega) h2)
    have rw1 : (rd_L1 d (j : Int)) = d.getD j [] := rdR_nat d j
    by_cases h0 : (d.getD j []).getD i 0 = 0
    · refine Ev.step (fun k => by rw [impl_OrderOf.l2]) (evPos (by omega) (evPos (by omega) (evPos (by omega) (evPos rfl (evPos (by omega) (evPos (by rw [rw1]; omega) (evPos (by rw [rw1, rd_nat]; exact h0) ?_)))))))
      rw [w64 hjn (by omega)]
      exact ih
    · have hin := (hP j (by omega) hjn).resolve_right h0
      have ct := contains_f out (j : Int) (by omega)
      rw [decide_eq_true hin] at ct
      refine Ev.step (fun k => by rw [impl_OrderOf.l2]) (evPos (by omega) (evPos (by omega) (evPos (by omega) (evPos rfl (evPos (by omega) (evPos (by rw [rw1]; omega) (evNeg (by rw [rw1, rd_nat]; exact h0) (Ev.bind ct ?_))))))))
      rw [w64 hjn (by omega)]
      exact ih
theorem ordImpl_some {c : List Int} {d : List (List Int)} (B : Bk c d) {out : List Int} (ho : out.length ≤ 4) {i : Nat} (hi : i < c.length) {res : List Int × Bool} (e : Ev (fun k => impl_OrderOf.l1 k out (-1) (c.length : Int) ((i + 1 : Nat) : Int) c d) res) :
    ∀ m j, j + m = c.length → (∃ q, j ≤ q ∧ q < c.length ∧ ¬ ((q : Int) ∈ out ∨ (d.getD q []).getD i 0 = 0)) → Ev (fun k => impl_OrderOf.l2 k out (-1) (i : Int) true (c.length : Int) (i : Int) d (d.length : Int) (j : Int) c d) res
  | 0, j, hj, hP => by
    obtain ⟨q, h1, h2, _⟩ := hP
    omega
  | m + 1, j, hj, hP => by
    have hd := B.hd
    have n4 := B.n4
    have hjn : j < c.length := by omega
    have hr := B.hr j hjn
    have rw1 : (rd_L1 d (j : Int)) = d.getD j [] := rdR_nat d j
    have up : ((j : Int) ∈ out ∨ (d.getD j []).getD i 0 = 0) → ∃ q, j + 1 ≤ q ∧ q < c.length ∧ ¬ ((q : Int) ∈ out ∨ (d.getD q []).getD i 0 = 0) := fun a => by
      obtain ⟨q, h1, h2, h3⟩ := hP
      refine ⟨q, ?_, h2, h3⟩
      by_cases e2 : q = j
      · subst e2; exact absurd a h3
      · omega
    by_cases h0 : (d.getD j []).getD i 0 = 0
    · refine Ev.step (fun k => by rw [impl_OrderOf.l2]) (evPos (by omega) (evPos (by omega) (evPos (by omega) (evPos rfl (evPos (by omega) (evPos (by rw [rw1]; omega) (evPos (by rw [rw1, rd_nat]; exact h0) ?_)))))))
      rw [w64 hjn (by omega)]
      exact ordImpl_some B ho hi e m (j + 1) (by omega) (up (.inr h0))
    · have ct := contains_f out (j : Int) (by omega)
      refine Ev.step (fun k => by rw [impl_OrderOf.l2]) (evPos (by omega) (evPos (by omega) (evPos (by omega) (evPos rfl (evPos (by omega) (evPos (by rw [rw1]; omega) (evNeg (by rw [rw1, rd_nat]; exact h0) (Ev.bind ct ?_))))))))
      rw [w64 hjn (by omega)]
      by_cases hin : (j : Int) ∈ out
      · rw [decide_eq_true hin]
        exact ordImpl_some B ho hi e m (j + 1) (by omega) (up (.inl hin))
      · rw [decide_eq_false hin]
        exact ordImpl_no B hi e m (j + 1) (by omega)
def tk (n : Nat) (out : List Int) : List Bool := (List.range n).map fun p : Nat => decide ((p : Int) ∈ out)
theorem tk_len (n : Nat) (out : List Int) : (tk n out).length = n := by simp [tk]
theorem tk_at (n : Nat) (out : List Int) (i : Nat) (h : i < n) : rdOf false (tk n out) (i : Int) = decide ((i : Int) ∈ out) := by
  unfold rdOf tk; rw [Int.toNat_natCast, List.getD_eq_getElem?_getD, List.getElem?_map, List.getElem?_range h]; rfl
theorem tk_set (n : Nat) (out : List Int) (i : Nat) : (tk n out).set i true = tk n (out ++ [(i : Int)]) := by
  unfold tk
  rw [rmap_set]
  refine rmap_congr fun j _ => ?_
  by_cases e : j = i
  · subst e; rw [if_pos rfl]; simp
  · rw [if_neg e, decide_eq_decide, List.mem_append, List.mem_singleton]
    exact ⟨fun h => .inl h, fun h => h.resolve_right (fun a => e (by omega))⟩
theorem ordSpec_end {c : List Int} {d : List (List Int)} (n4 : c.length ≤ 4) {out : List Int} (ho : out.length ≤ 4) {f : Nat} (hf : f < c.length) {res : List Int × Bool} (e : Ev (fun k => spec_OrderOf.l0 k (out ++ [(f : Int)]) (tk c.length (out ++ [(f : Int)])) c d) res) :
    ∀ m i, i + m = c.length → Ev (fun k => spec_OrderOf.l1 k out (tk c.length out) (f : Int) (i : Int) c d) res
  | 0, i, hi => by
    have lt := tk_len c.length out
    refine Ev.step (fun k => by rw [spec_OrderOf.l1]) (evNeg (by omega) (evNeg (by omega) (evPos (by omega) (evPos (by omega) (evPos (by omega) ?_)))))
    rw [Int.toNat_natCast, tk_set]
    exact e
  | m + 1, i, hi => by
    have lt := tk_len c.length out
    have ih := ordSpec_end n4 ho hf e m (i + 1) (by omega)
    have w := w64 (show i < c.length by omega) (by omega)
    have t0 : (i : Int) < (c.length : Int) := by omega
    have t1 : (i : Int) < ((tk c.length out).length : Int) := by omega
    have z : (0 : Int) ≤ (i : Int) := by omega
    have dz : decide ((f : Int) ≥ 0) = true := decide_eq_true (by omega)
    have j2 : Ev (fun k => spec_OrderOf.j2 k out (tk c.length out) (f : Int) (i : Int) true c d) res := Ev.step (fun k => by rw [spec_OrderOf.j2]) (evPos rfl (by rw [w]; exact ih))
    refine Ev.step (fun k => by rw [spec_OrderOf.l1]) (evPos t0 (evPos z (evPos t1 (evIte (fun _ => j2) (fun _ => ?_)))))
    rw [dz]; exact j2
theorem ordSpec_all {c : List Int} {d : List (List Int)} (B : Bk c d) {out : List Int} {i : Nat} (hi : i < c.length) {res : List Int × Bool} (e : Ev (fun k => spec_OrderOf.l1 k out (tk c.length out) (i : Int) ((i + 1 : Nat) : Int) c d) res) :
    ∀ m j, j + m = c.length → (∀ q, j ≤ q → q < c.length → (q : Int) ∈ out ∨ (d.getD q []).getD i 0 = 0) → Ev (fun k => spec_OrderOf.l2 k out (tk c.length out) (-1) (i : Int) (j : Int) c d) res
  | 0, j, hj, hP => Ev.step (fun k => by rw [spec_OrderOf.l2]) (evNeg (by omega) (by rw [w64 hi (by have := B.n4; omega)]; exact e))
  | m + 1, j, hj, hP => by
    have lt := tk_len c.length out
    have hd := B.hd
    have n4 := B.n4
    have hjn : j < c.length := by omega
    have hr := B.hr j hjn
    have ih := ordSpec_all B hi e m (j + 1) (by omega) (fun q h1 h2 => hP q (by omega) h2)
    have rw1 : (rd_L1 d (j : Int)) = d.getD j [] := rdR_nat d j
    have w := w64 hjn (by omega)
    refine Ev.step (fun k => by rw [spec_OrderOf.l2]) (evPos (by omega) (evPos (by omega) (evPos (by omega) (evIte (fun _ => by rw [w]; exact ih) (fun hn => ?_)))))
    rw [tk_at c.length out j hjn, decide_eq_true_iff] at hn
    have h0 := (hP j (by omega) hjn).resolve_left hn
    exact evPos (by omega) (evPos (by omega) (evPos (by rw [rw1]; omega) (evNeg (by rw [rw1, rd_nat, h0]; omega) (by rw [w]; exact ih))))
theorem ordSpec_some {c : List Int} {d : List (List Int)} (B : Bk c d) {out : List Int} {i : Nat} (hi : i < c.length) {res : List Int × Bool} (e : Ev (fun k => spec_OrderOf.l1 k out (tk c.length out) (-1) ((i + 1 : Nat) : Int) c d) res) :
    ∀ m j, j + m = c.length → (∃ q, j ≤ q ∧ q < c.length ∧ ¬ ((q : Int) ∈ out ∨ (d.getD q []).getD i 0 = 0)) → Ev (fun k => spec_OrderOf.l2 k out (tk c.length out) (-1) (i : Int) (j : Int) c d) res
  | 0, j, hj, hP => by
    obtain ⟨q, h1, h2, _⟩ := hP
    omega
  | m + 1, j, hj, hP => by
    have lt := tk_len c.length out
    have hd := B.hd
    have n4 := B.n4
    have hjn : j < c.length := by omega
    have hr := B.hr j hjn
    have hx := B.ent hjn hi
    have rw1 : (rd_L1 d (j : Int)) = d.getD j [] := rdR_nat d j
    have w := w64 hjn (by omega)
    have up : ((j : Int) ∈ out ∨ (d.getD j []).getD i 0 = 0) → ∃ q, j + 1 ≤ q ∧ q < c.length ∧ ¬ ((q : Int) ∈ out ∨ (d.getD q []).getD i 0 = 0) := fun a => by
      obtain ⟨q, h1, h2, h3⟩ := hP
      refine ⟨q, ?_, h2, h3⟩
      by_cases e2 : q = j
      · subst e2; exact absurd a h3
      · omega
    refine Ev.step (fun k => by rw [spec_OrderOf.l2]) (evPos (by omega) (evPos (by omega) (evPos (by omega) (evIte (fun hy => ?_) (fun hn => ?_)))))
    · rw [tk_at c.length out j hjn, decide_eq_true_iff] at hy
      rw [w]
      exact ordSpec_some B hi e m (j + 1) (by omega) (up (.inl hy))
    · refine evPos (by omega) (evPos (by omega) (evPos (by rw [rw1]; omega) ?_))
      by_cases h0 : (d.getD j []).getD i 0 = 0
      · exact evNeg (by rw [rw1, rd_nat, h0]; omega) (by rw [w]; exact ordSpec_some B hi e m (j + 1) (by omega) (up (.inr h0)))
      · exact evPos (by rw [rw1, rd_nat]; omega) (by rw [w64 hi (by omega)]; exact e)
/-- One search for the next bank. Good: what is told of the answer. -/
theorem ordScan {c : List Int} {d : List (List Int)} (B : Bk c d) {Good : List Int × Bool → Prop} {out : List Int} (ho : out.length < c.length) (hnil : (∀ i, i < c.length → ¬ freeB d c.length out i) → Good ([], false))
    (go : ∀ i, i < c.length → freeB d c.length out i → ∃ r, Ev (fun k => impl_OrderOf.l0 k (out ++ [(i : Int)]) c d) r ∧ Ev (fun k => spec_OrderOf.l0 k (out ++ [(i : Int)]) (tk c.length (out ++ [(i : Int)])) c d) r ∧ Good r) :
    ∀ m i, i + m = c.length → (∀ q, q < i → ¬ freeB d c.length out q) → ∃ r, Ev (fun k => impl_OrderOf.l1 k out (-1) (c.length : Int) (i : Int) c d) r ∧ Ev (fun k => spec_OrderOf.l1 k out (tk c.length out) (-1) (i : Int) c d) r ∧ Good r
  | 0, i, hi, hq => by
    have lt := tk_len c.length out
    refine ⟨([], false), Ev.step (fun k => by rw [impl_OrderOf.l1]) (evNeg (by omega) (evPos (by omega) (Ev.now _))), Ev.step (fun k => by rw [spec_OrderOf.l1]) (evNeg (by omega) (evPos (by omega) (Ev.now _))), hnil fun q h => hq q (by omega)⟩
  | m + 1, i, hi, hq => by
    have lt := tk_len c.length out
    have n4 := B.n4
    have hin : i < c.length := by omega
    have ct := contains_f out (i : Int) (by omega)
    have t0 : (i : Int) < (c.length : Int) := by omega
    have t1 : (i : Int) < ((tk c.length out).length : Int) := by omega
    have z : (0 : Int) ≤ (i : Int) := by omega
    have rt := tk_at c.length out i hin
    have w := w64 hin (by omega)
    have dz : decide ((-1 : Int) ≥ 0) = false := by decide
    by_cases hin2 : (i : Int) ∈ out
    · obtain ⟨r, e1, e2, g⟩ := ordScan B ho hnil go m (i + 1) (by omega) (fun q h => by
        by_cases e : q = i
        · subst e; exact fun a => a.1 hin2
        · exact hq q (by omega))
      rw [decide_eq_true hin2] at ct rt
      refine ⟨r, Ev.step (fun k => by rw [impl_OrderOf.l1]) (evPos t0 (Ev.bind ct (ordImpl_no B hin e1 c.length 0 (by omega)))), Ev.step (fun k => by rw [spec_OrderOf.l1]) (evPos t0 (evPos z (evPos t1 (evPos rt ?_)))), g⟩
      exact Ev.step (fun k => by rw [spec_OrderOf.j2]) (evPos rfl (by rw [w]; exact e2))
    · rw [decide_eq_false hin2] at ct rt
      by_cases hP : ∀ q, 0 ≤ q → q < c.length → (q : Int) ∈ out ∨ (d.getD q []).getD i 0 = 0
      · obtain ⟨r, e1, e2, g⟩ := go i hin ⟨hin2, fun q h => hP q (by omega) h⟩
        refine ⟨r, Ev.step (fun k => by rw [impl_OrderOf.l1]) (evPos t0 (Ev.bind ct (ordImpl_all B (by omega) hin e1 c.length 0 (by omega) hP))), Ev.step (fun k => by rw [spec_OrderOf.l1]) (evPos t0 (evPos z (evPos t1 (evNeg (by rw [rt]; decide) ?_)))), g⟩
        rw [dz]
        exact Ev.step (f := fun k => spec_OrderOf.l2 k out (tk c.length out) (-1) (i : Int) 0 c d) (fun k => by rw [spec_OrderOf.j2, if_neg (by decide)]) (ordSpec_all B hin (ordSpec_end n4 (by omega) hin e2 m (i + 1) (by omega)) c.length 0 (by omega) hP)
      · obtain ⟨q0, h1, h2⟩ : ∃ q, q < c.length ∧ ¬ ((q : Int) ∈ out ∨ (d.getD q []).getD i 0 = 0) := by
          refine Classical.byContradiction fun a => hP fun q _ h => Classical.byContradiction fun b => a ⟨q, h, b⟩
        obtain ⟨r, e1, e2, g⟩ := ordScan B ho hnil go m (i + 1) (by omega) (fun q h => by
          by_cases e : q = i
          · subst e; exact fun a => h2 (a.2 q0 h1)
          · exact hq q (by omega))
        refine ⟨r, Ev.step (fun k => by rw [impl_OrderOf.l1]) (evPos t0 (Ev.bind ct (ordImpl_some B (by omega) hin e1 c.length 0 (by omega) ⟨q0, by omega, h1, h2⟩))), Ev.step (fun k => by rw [spec_OrderOf.l1]) (evPos t0 (evPos z (evPos t1 (evNeg (by rw [rt]; decide) ?_)))), g⟩
        rw [dz]
        exact Ev.step (f := fun k => spec_OrderOf.l2 k out (tk c.length out) (-1) (i : Int) 0 c d) (fun k => by rw [spec_OrderOf.j2, if_neg (by decide)]) (ordSpec_some B hin e2 c.length 0 (by omega) ⟨q0, by omega, h1, h2⟩)
/-- The banks in order: what both tell, and what is told of it (Inv of the banks so far). -/
theorem ordAll {c : List Int} {d : List (List Int)} (B : Bk c d) {Good : List Int × Bool → Prop} {Inv : List Int → Prop} (hfull : ∀ out, Inv out → out.length = c.length → Good (out, true)) (hnil : ∀ out, Inv out → (∀ i, i < c.length → ¬ freeB d c.length out i) → out.length < c.length → Good ([], false))
    (hstep : ∀ out i, Inv out → i < c.length → freeB d c.length out i → Inv (out ++ [(i : Int)])) :
    ∀ m out, out.length + m = c.length → Inv out → ∃ r, Ev (fun k => impl_OrderOf.l0 k out c d) r ∧ Ev (fun k => spec_OrderOf.l0 k out (tk c.length out) c d) r ∧ Good r
  | 0, out, hm, hI => ⟨(out, true), Ev.step (fun k => by rw [impl_OrderOf.l0]) (evNeg (by omega) (Ev.now _)), Ev.step (fun k => by rw [spec_OrderOf.l0]) (evNeg (by omega) (Ev.now _)), hfull out hI (by omega)⟩
  | m + 1, out, hm, hI => by
    obtain ⟨r, e1, e2, g⟩ := ordScan B (Good := Good) (out := out) (by omega) (fun h => hnil out hI h (by omega)) (fun i hi hf => ordAll B hfull hnil hstep m (out ++ [(i : Int)]) (by simp; omega) (hstep out i hI hi hf)) c.length 0 (by omega) (fun q h => by omega)
    have t : (out.length : Int) < (c.length : Int) := by omega
    exact ⟨r, Ev.step (f := fun k => impl_OrderOf.l1 k out (-1) (c.length : Int) 0 c d) (fun k => by rw [impl_OrderOf.l0, if_pos t]) e1, Ev.step (f := fun k => spec_OrderOf.l1 k out (tk c.length out) (-1) 0 c d) (fun k => by rw [spec_OrderOf.l0, if_pos t]) e2, g⟩
theorem tk_nil (n : Nat) : List.replicate n false = tk n [] := by unfold tk; simp [List.map_const']
/-- Both OrderOfs tell the same of every book. -/
theorem orderOf_f {c : List Int} {d : List (List Int)} (hi : Ev (fun k => impl_isBook.f k c d) (okB c d)) (hs : Ev (fun k => spec_BookOk.f k c d) (okB c d)) {Good : List Int × Bool → Prop} {Inv : List Int → Prop} (h0 : Inv []) (hbad : okB c d = false → Good ([], false))
    (hfull : okB c d = true → ∀ out, Inv out → out.length = c.length → Good (out, true)) (hnil : okB c d = true → ∀ out, Inv out → (∀ i, i < c.length → ¬ freeB d c.length out i) → out.length < c.length → Good ([], false)) (hstep : ∀ out i, Inv out → i < c.length → freeB d c.length out i → Inv (out ++ [(i : Int)])) :
    ∃ r, Ev (fun k => impl_OrderOf.f k c d) r ∧ Ev (fun k => spec_OrderOf.f k c d) r ∧ Good r := by
  by_cases hb : okB c d = true
  · have B := Bk.of hb
    have n4 := B.n4
    rw [hb] at hi hs
    obtain ⟨r, e1, e2, g⟩ := ordAll B (hfull hb) (hnil hb) hstep c.length [] (by simp) h0
    refine ⟨r, Ev.congr (fun k => by unfold impl_OrderOf.f; rfl) (Ev.bind hi (evPos rfl e1)), ?_, g⟩
    unfold spec_OrderOf.f
    simp only [Option.bind_some]
    refine Ev.bind hs (evPos rfl (evPos (by omega) (evPos (by omega) ?_)))
    rw [Int.toNat_natCast, tk_nil]
    exact e2
  · have hf : okB c d = false := by simpa using hb
    rw [hf] at hi hs
    refine ⟨([], false), Ev.congr (fun k => by unfold impl_OrderOf.f; rfl) (Ev.bind hi (evNeg (show ¬ (false = true) by decide) (Ev.now _))), ?_, hbad hf⟩
    unfold spec_OrderOf.f
    simp only [Option.bind_some]
    exact Ev.bind hs (evNeg (show ¬ (false = true) by decide) (Ev.now _))

/-- The numbers from a on. -/
def seqF (a : Int) (n : Nat) : List Int := (List.range n).map fun (j : Nat) => a + (j : Int)
theorem seqF_succ (a : Int) (n : Nat) : seqF a (n + 1) = seqF a n ++ [a + (n : Int)] := by unfold seqF; rw [rmap_succ]
theorem markIntS_l0 (l : List Int) (a : Int) (ha : 0 ≤ a ∧ a ≤ 4000000000000000000) (hl : l.length ≤ 1048576) :
    ∀ m i, i + m = l.length → Ev (fun k => laws_markIntS.l0 k (seqF a i ++ l.drop i) (a + (i : Int)) (i : Int)) (a + (l.length : Int), seqF a l.length)
  | 0, i => fun h => by
    refine Ev.step (f := fun _ => some (a + (l.length : Int), seqF a l.length)) (fun k => ?_) (Ev.now _)
    simp only [laws_markIntS.l0]
    have hi : i = l.length := by omega
    subst hi
    rw [if_neg (by simp [seqF]), List.drop_length, List.append_nil]
  | m + 1, i => fun h => by
    refine Ev.step (fun k => ?_) (markIntS_l0 l a ha hl m (i + 1) (by omega))
    simp only [laws_markIntS.l0]
    have w : wrap64 (a + (i : Int) + 1) = a + ((i + 1 : Nat) : Int) := by unfold wrap64; omega
    rw [if_pos (by simp [seqF]; omega), if_pos (by omega), Int.toNat_natCast, drop_step l i 0 (by omega), mid_set _ _ _ _ _ (by simp [seqF]), seqF_succ, w, w64 (show i < l.length by omega) (by omega), List.append_assoc]; rfl
theorem markIntS_f (l : List Int) (a : Int) (ha : 0 ≤ a ∧ a ≤ 4000000000000000000) (hl : l.length ≤ 1048576) : Ev (fun k => laws_markIntS.f k l a) (a + (l.length : Int), seqF a l.length) :=
  Ev.congr (fun k => by unfold laws_markIntS.f; simp [seqF]) (markIntS_l0 l a ha hl l.length 0 (by omega))
theorem heldIntS_l0 (a : Int) (n : Nat) (ha : 0 ≤ a ∧ a ≤ 4000000000000000000) (hn : n ≤ 1048576) :
    ∀ m i, i + m = n → Ev (fun k => laws_heldIntS.l0 k (seqF a n) (a + (i : Int)) (i : Int)) (a + (n : Int))
  | 0, i => fun h => by
    refine Ev.step (f := fun _ => some (a + (n : Int))) (fun k => ?_) (Ev.now _)
    simp only [laws_heldIntS.l0]
    have hi : i = n := by omega
    subst hi
    rw [if_neg (by simp [seqF])]
  | m + 1, i => fun h => by
    refine Ev.step (fun k => ?_) (heldIntS_l0 a n ha hn m (i + 1) (by omega))
    simp only [laws_heldIntS.l0]
    have w : wrap64 (a + (i : Int) + 1) = a + ((i + 1 : Nat) : Int) := by unfold wrap64; omega
    rw [if_pos (by simp [seqF]; omega), if_pos (by omega), rd_nat, if_pos (by unfold seqF; rw [rmap_get _ _ _ (by omega)]), w, w64 (show i < n by omega) (by omega)]
theorem heldIntS_f (a : Int) (n : Nat) (ha : 0 ≤ a ∧ a ≤ 4000000000000000000) (hn : n ≤ 1048576) : Ev (fun k => laws_heldIntS.f k (seqF a n) a) (a + (n : Int)) :=
  Ev.congr (fun k => by unfold laws_heldIntS.f; simp) (heldIntS_l0 a n ha hn n 0 (by omega))
theorem markIntSS_l0 (n : Nat) (hn : n ≤ 1048576) : ∀ (m i : Nat) (x : List (List Int)) (a : Int), x.length = n → (∀ j, (x.getD j []).length ≤ 1048576) → i + m = n → 0 ≤ a ∧ a ≤ 1048576 * (i + 2 : Int) →
    ∃ t r, Ev (fun k => laws_markIntSS.l0 k x a (i : Int)) (t, r) ∧ 0 ≤ t
  | 0, i, x, a => fun hx hr h ha => by
    refine ⟨a, x, Ev.step (f := fun _ => some (a, x)) (fun k => ?_) (Ev.now _), ha.1⟩
    simp only [laws_markIntSS.l0]
    rw [if_neg (by omega)]
  | m + 1, i, x, a => fun hx hr h ha => by
    have hm := markIntS_f (x.getD i []) a (by omega) (hr i)
    have hri := hr i
    obtain ⟨t, r, h1, h2⟩ := markIntSS_l0 n hn m (i + 1) (x.set i (seqF a (x.getD i []).length)) (a + ((x.getD i []).length : Int)) (by simp; omega)
      (fun j => by
        rw [List.getD_eq_getElem?_getD, List.getElem?_set]
        by_cases e : i = j
        · subst e; rw [if_pos rfl, if_pos (by omega)]; simpa [seqF] using hri
        · rw [if_neg e, ← List.getD_eq_getElem?_getD]; exact hr j)
      (by omega) (by omega)
    refine ⟨t, r, Ev.step (f := fun k => (laws_markIntS.f k (x.getD i []) a).bind fun bt => laws_markIntSS.l0 k (x.set i bt.2) bt.1 ((i + 1 : Nat) : Int)) (fun k => ?_) (Ev.bind hm h1), h2⟩
    simp only [laws_markIntSS.l0]
    rw [if_pos (by omega), if_pos (by omega), rdR_nat, Int.toNat_natCast, w64 (show i < n by omega) (by omega)]
theorem markSS_from (d : List (List Int)) (hd : d.length ≤ 1048576) (hr : ∀ j, (d.getD j []).length ≤ 1048576) (a : Int) (ha : 0 ≤ a ∧ a ≤ 2097152) : ∃ t r, Ev (fun k => laws_markIntSS.l0 k d a 0) (t, r) ∧ 0 ≤ t :=
  markIntSS_l0 d.length hd d.length 0 d a rfl hr (by omega) (by omega)
theorem markBook_f (c : List Int) (d : List (List Int)) (hc : c.length ≤ 1048576) (hd : d.length ≤ 1048576) (hr : ∀ j, (d.getD j []).length ≤ 1048576) : ∃ t, Ev (fun k => laws_markBook.f k c d 1) t ∧ ¬ t < 0 := by
  have h1 := markIntS_f c 1 (by omega) hc
  -- one bound for all that follows
  obtain ⟨t, r, h2, h3⟩ : ∃ t r, Ev (fun k => laws_markIntSS.l0 k d (1 + (c.length : Int)) 0) (t, r) ∧ 0 ≤ t := markSS_from d hd hr (1 + (c.length : Int)) (by omega)
  exact ⟨t, Ev.congr (fun k => by unfold laws_markBook.f; rfl) (Ev.bind h1 (Ev.bind (show Ev (fun k => laws_markIntSS.f k d (1 + (c.length : Int))) (t, r) from h2) (Ev.now t))), by omega⟩


theorem FnExactOrderOf (l0 : List Int) (l1 : List (List Int)) (h0 : l0.length ≤ maxLen) (h1 : l1.length ≤ maxLen) (w0 : ∀ x ∈ l0, (Lit.int .i64 x).wf = true) (w1 : ∀ r ∈ l1, r.length ≤ maxLen ∧ ∀ x ∈ r, (Lit.int .i64 x).wf = true) : ∃ k, laws_FnExactOrderOf.f k l0 l1 = some true := by
  unfold maxLen at h0 h1
  obtain ⟨t, ht, hs⟩ := szBook_f l0 l1 h0 h1 (getD_bound fun r hr => by have := (w1 r hr).1; unfold maxLen at this; exact this)
  refine Ev.rounds (Ev.congr (fun k => by unfold laws_FnExactOrderOf.f; rfl) (Ev.bind ht (evIte (fun _ => Ev.now true) (fun hn => ?_))))
  obtain ⟨a, b, c⟩ := hs hn
  have hr : ∀ i, (l1.getD i []).length ≤ 9223372036854775807 := fun i => by have := c i; omega
  have tb := toBook_f l0 l1 a b c
  obtain ⟨⟨V, v⟩, im, sp, hV⟩ := orderOf_f (isBook_f l0 l1 h0 hr) (specBookOk_f l0 l1 h0 hr) (Good := fun r => r.1.length ≤ 4) (Inv := fun _ => True) trivial (fun _ => by simp) (fun hb out _ e => by
    have := (Bk.of hb).n4
    show out.length ≤ 4
    omega) (fun _ _ _ _ _ => by simp) (fun _ _ _ _ _ => trivial)
  replace hV : V.length ≤ 4 := hV
  have eqV := eqIntS_f V (by omega)
  obtain ⟨q, hq, hq0⟩ := markBook_f l0 l1 a b c
  have hm := markIntS_f V 1 (by omega) (by omega)
  have hh := heldIntS_f 1 V.length (by omega) (by omega)
  refine Ev.bind tb (Ev.bind sp (Ev.bind tb (Ev.bind im (Ev.bind eqV (evPos rfl ?_)))))
  refine Ev.step (fun k => by simp only [laws_FnExactOrderOf.j0]; rfl) (evNeg (by simp) (Ev.bind tb (Ev.bind (eqBook_f l0 l1 h0 h1 hr) (evPos rfl (Ev.bind hq (evNeg hq0 (Ev.bind eqV (evPos rfl ?_))))))))
  refine Ev.step (fun k => by simp only [laws_FnExactOrderOf.j1]; rfl) (evNeg (by simp) (Ev.bind hm (Ev.bind hh ?_)))
  refine evNeg (by omega) (evPos rfl (Ev.bind tb (Ev.bind im (Ev.bind eqV (evPos rfl ?_)))))
  refine Ev.step (fun k => by simp only [laws_FnExactOrderOf.j2]; rfl) (evNeg (by simp) (Ev.bind hh ?_))
  exact evNeg (by omega) (evPos rfl (Ev.now true))

end Go.Proofs.Ytobdgfapjcepkaa.Pure
