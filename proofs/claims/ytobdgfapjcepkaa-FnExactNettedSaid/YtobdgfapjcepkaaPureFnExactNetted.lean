/- Netted of the program and of the reference return the same book, the book stays as it is, and the result shares no memory with it or with another result, for every book; no condition. -/
import Derived.Test.YtobdgfapjcepkaaOwnFnExactNetted
namespace Go.Proofs.Ytobdgfapjcepkaa.Pure
open Go.RowKit Go.Proofs.Ytobdgfapjcepkaa.QFnExactNetted Go.Proofs.YtobdgfapjcepkaaW.PrintWords Go.Proofs.YtobdgfapjcepkaaW.PrintLast Go.Proofs.YtobdgfapjcepkaaW.PrintMore
set_option linter.unusedVariables false
set_option linter.unusedSimpArgs false

theorem evPos {α : Type} {c : Prop} [Decidable c] {f g : Nat → Option α} {r : α} (h : c) (e : Ev f r) : Ev (fun k => if c then f k else g k) r := by
  simp only [if_pos h]; exact e
theorem evNeg {α : Type} {c : Prop} [Decidable c] {f g : Nat → Option α} {r : α} (h : ¬ c) (e : Ev g r) : Ev (fun k => if c then f k else g k) r := by
  simp only [if_neg h]; exact e
theorem evIs {α : Type} {g : Nat → Option α} {r r' : α} (e : Ev g r) (h : r = r') : Ev g r' := h ▸ e
theorem evIte {α : Type} {c : Prop} [Decidable c] {f g : Nat → Option α} {r : α} (e1 : c → Ev f r) (e2 : ¬ c → Ev g r) : Ev (fun k => if c then f k else g k) r := by
  by_cases h : c
  · exact evPos h (e1 h)
  · exact evNeg h (e2 h)
/-- What a number does, it does in one step more. -/
theorem w64 {j n : Nat} (h : j < n) (hn : n ≤ 9223372036854775807) : wrap64 ((j : Int) + 1) = ((j + 1 : Nat) : Int) := by unfold wrap64; omega
theorem rd_nat (xs : List Int) (j : Nat) : rd xs (j : Int) = xs.getD j 0 := by unfold rd; rw [Int.toNat_natCast]
theorem drop_step {α : Type} (xs : List α) (j : Nat) (z : α) (h : j < xs.length) : xs.drop j = xs.getD j z :: xs.drop (j + 1) := by
  rw [List.drop_eq_getElem_cons h, List.getD_eq_getElem?_getD, List.getElem?_eq_getElem h]; rfl
theorem drop_end {α : Type} (xs : List α) (j : Nat) (h : ¬ j < xs.length) : xs.drop j = [] := List.drop_eq_nil_of_le (by omega)
def debtOk (x : Int) : Bool := decide (0 ≤ x ∧ x ≤ 9)
def rowOk (c : List Int) (d : List (List Int)) (i : Nat) : Bool :=
  decide (0 ≤ c.getD i 0 ∧ c.getD i 0 ≤ 20) && ((d.getD i []).length == c.length) && ((d.getD i []).getD i 0 == 0) && (d.getD i []).all debtOk
/-- A book: what BookOk asks. -/
def okB (c : List Int) (d : List (List Int)) : Bool := decide (1 ≤ c.length ∧ c.length ≤ 4) && (d.length == c.length) && (List.range' 0 c.length).all (rowOk c d)
theorem range_step (i n : Nat) (h : i < n) : List.range' i (n - i) = i :: List.range' (i + 1) (n - (i + 1)) := by
  have : n - i = (n - (i + 1)) + 1 := by omega
  rw [this, List.range'_succ]
theorem range_end (i n : Nat) (h : ¬ i < n) : List.range' i (n - i) = [] := by
  have : n - i = 0 := by omega
  rw [this]; rfl
theorem rowOk_of {c : List Int} {d : List (List Int)} {i : Nat} (h1 : 0 ≤ c.getD i 0 ∧ c.getD i 0 ≤ 20) (h2 : (d.getD i []).length = c.length) (h3 : (d.getD i []).getD i 0 = 0) : rowOk c d i = (d.getD i []).all debtOk := by
  unfold rowOk; rw [decide_eq_true h1, beq_iff_eq.2 h2, beq_iff_eq.2 h3]; rfl
theorem rowOk_f1 {c : List Int} {d : List (List Int)} {i : Nat} (h1 : ¬ (0 ≤ c.getD i 0 ∧ c.getD i 0 ≤ 20)) : rowOk c d i = false := by
  unfold rowOk; rw [decide_eq_false h1]; rfl
theorem rowOk_f2 {c : List Int} {d : List (List Int)} {i : Nat} (h2 : ¬ (d.getD i []).length = c.length) : rowOk c d i = false := by
  unfold rowOk; rw [beq_eq_false_iff_ne.2 h2, Bool.and_false]; rfl
theorem rowOk_f3 {c : List Int} {d : List (List Int)} {i : Nat} (h3 : ¬ (d.getD i []).getD i 0 = 0) : rowOk c d i = false := by
  unfold rowOk; rw [beq_eq_false_iff_ne.2 h3, Bool.and_false]; rfl
theorem okB_of {c : List Int} {d : List (List Int)} (h1 : 1 ≤ c.length ∧ c.length ≤ 4) (h2 : d.length = c.length) : okB c d = (List.range' 0 c.length).all (rowOk c d) := by
  unfold okB; rw [decide_eq_true h1, beq_iff_eq.2 h2]; rfl
theorem okB_f1 {c : List Int} {d : List (List Int)} (h1 : ¬ (1 ≤ c.length ∧ c.length ≤ 4)) : okB c d = false := by
  unfold okB; rw [decide_eq_false h1]; rfl
theorem okB_f2 {c : List Int} {d : List (List Int)} (h2 : ¬ d.length = c.length) : okB c d = false := by
  unfold okB; rw [beq_eq_false_iff_ne.2 h2, Bool.and_false]; rfl
/-- What a book is like, row by row. -/
theorem okB_iff (c : List Int) (d : List (List Int)) : okB c d = true ↔ (1 ≤ c.length ∧ c.length ≤ 4) ∧ d.length = c.length ∧ ∀ i, i < c.length → (0 ≤ c.getD i 0 ∧ c.getD i 0 ≤ 20) ∧ (d.getD i []).length = c.length ∧ (d.getD i []).getD i 0 = 0 ∧ ∀ x ∈ d.getD i [], 0 ≤ x ∧ x ≤ 9 := by
  unfold okB
  rw [Bool.and_eq_true, Bool.and_eq_true, decide_eq_true_iff, beq_iff_eq, List.all_eq_true, and_assoc]
  refine and_congr_right fun _ => and_congr_right fun _ => ⟨fun h i hi => ?_, fun h i hi => ?_⟩
  · have h2 := h i (by rw [List.mem_range']; exact ⟨i, hi, by omega⟩)
    unfold rowOk at h2
    rw [Bool.and_eq_true, Bool.and_eq_true, Bool.and_eq_true, decide_eq_true_iff, beq_iff_eq, beq_iff_eq, List.all_eq_true] at h2
    exact ⟨h2.1.1.1, h2.1.1.2, h2.1.2, fun x hx => of_decide_eq_true (h2.2 x hx)⟩
  · obtain ⟨j, hj, rfl⟩ := List.mem_range'.1 hi
    have h2 := h (0 + 1 * j) (by omega)
    unfold rowOk
    rw [Bool.and_eq_true, Bool.and_eq_true, Bool.and_eq_true, decide_eq_true_iff, beq_iff_eq, beq_iff_eq, List.all_eq_true]
    exact ⟨⟨⟨h2.1, h2.2.1⟩, h2.2.2.1⟩, fun x hx => decide_eq_true (h2.2.2.2 x hx)⟩

theorem rdR_nat (xs : List (List Int)) (j : Nat) : rd_L1 xs (j : Int) = xs.getD j [] := by unfold rd_L1; rw [Int.toNat_natCast]

/-- The sum of numbers. -/
def sm : List Int → Int
  | [] => 0
  | x :: r => x + sm r
theorem sm_append (a b : List Int) : sm (a ++ b) = sm a + sm b := by
  induction a with
  | nil => simp [sm]
  | cons x r ih => simp only [List.cons_append, sm, ih]; omega
theorem take_snoc {α : Type} (xs : List α) (z : α) (j : Nat) (h : j < xs.length) : xs.take (j + 1) = xs.take j ++ [xs.getD j z] := by
  rw [List.take_add_one, List.getElem?_eq_getElem h, List.getD_eq_getElem?_getD, List.getElem?_eq_getElem h]; rfl
theorem sm_take (xs : List Int) (j : Nat) (h : j < xs.length) : sm (xs.take (j + 1)) = sm (xs.take j) + xs.getD j 0 := by
  rw [take_snoc xs 0 j h, sm_append]; simp [sm]
theorem sm_bound (xs : List Int) (b : Int) (h : ∀ x ∈ xs, 0 ≤ x ∧ x ≤ b) : 0 ≤ sm xs ∧ sm xs ≤ b * xs.length := by
  induction xs with
  | nil => simp [sm]
  | cons x r ih =>
    have h1 := h x (by simp)
    have h2 := ih fun y hy => h y (by simp [hy])
    simp only [sm, List.length_cons]
    have : b * ((r.length + 1 : Nat) : Int) = b * (r.length : Int) + b := by grind
    omega
theorem getD_mem {xs : List Int} {j : Nat} (h : j < xs.length) : xs.getD j 0 ∈ xs := by
  rw [List.getD_eq_getElem?_getD, List.getElem?_eq_getElem h]; exact List.getElem_mem h
theorem mid_set {α : Type} (A B : List α) (x y : α) (i : Nat) (h : A.length = i) : (A ++ x :: B).set i y = A ++ y :: B := by
  rw [List.set_append_right _ _ (by omega), h, Nat.sub_self]; rfl
theorem mid_get (A B : List Int) (x : Int) (i : Nat) (h : A.length = i) : (A ++ x :: B).getD i 0 = x := by
  rw [List.getD_eq_getElem?_getD, List.getElem?_append_right (by omega), h, Nat.sub_self]; rfl
theorem rmap_set {α : Type} (f : Nat → α) (n i : Nat) (y : α) : ((List.range n).map f).set i y = (List.range n).map fun j => if j = i then y else f j := by
  refine List.ext_getElem (by simp) fun j h1 h2 => ?_
  simp only [List.getElem_set, List.getElem_map, List.getElem_range]
  by_cases e : i = j
  · simp [e]
  · rw [if_neg e, if_neg (fun h => e h.symm)]
theorem rmap_get (f : Nat → Int) (n i : Nat) (h : i < n) : ((List.range n).map f).getD i 0 = f i := by
  rw [List.getD_eq_getElem?_getD, List.getElem?_map, List.getElem?_range h]; rfl
theorem rmap_congr {α : Type} {f g : Nat → α} {n : Nat} (h : ∀ j, j < n → f j = g j) : (List.range n).map f = (List.range n).map g :=
  List.map_congr_left fun j hj => h j (List.mem_range.1 hj)
theorem rmap_succ {α : Type} (f : Nat → α) (n : Nat) : (List.range (n + 1)).map f = (List.range n).map f ++ [f n] := by
  rw [List.range_succ, List.map_append]; rfl
/-- What a bank owes in all; what it is owed, by the first i banks. -/
def owesI (d : List (List Int)) (i : Nat) : Int := sm (d.getD i [])
def owedI (d : List (List Int)) (i j : Nat) : Int := sm ((d.take i).map fun r => r.getD j 0)
def owesV (d : List (List Int)) (n : Nat) : List Int := (List.range n).map (owesI d)
def owedV (d : List (List Int)) (n : Nat) : List Int := (List.range n).map (owedI d n)
def netsV (d : List (List Int)) (n : Nat) : List Int := (List.range n).map fun i => owedI d n i - owesI d i
theorem owedI_succ (d : List (List Int)) (i j : Nat) (h : i < d.length) : owedI d (i + 1) j = owedI d i j + (d.getD i []).getD j 0 := by
  unfold owedI
  rw [take_snoc d [] i h, List.map_append, sm_append]
  simp [sm]
/-- The facts of a book, as they are used. -/
structure Bk (c : List Int) (d : List (List Int)) : Prop where
  n1 : 1 ≤ c.length
  n4 : c.length ≤ 4
  hd : d.length = c.length
  hr : ∀ i, i < c.length → (d.getD i []).length = c.length
  he : ∀ i, i < c.length → ∀ x ∈ d.getD i [], 0 ≤ x ∧ x ≤ 9
  hz : ∀ i, i < c.length → (d.getD i []).getD i 0 = 0
  hc : ∀ i, i < c.length → 0 ≤ c.getD i 0 ∧ c.getD i 0 ≤ 20
theorem Bk.of {c : List Int} {d : List (List Int)} (h : okB c d = true) : Bk c d := by
  obtain ⟨⟨a1, a2⟩, a3, a4⟩ := (okB_iff c d).1 h
  exact ⟨a1, a2, a3, fun i hi => (a4 i hi).2.1, fun i hi => (a4 i hi).2.2.2, fun i hi => (a4 i hi).2.2.1, fun i hi => (a4 i hi).1⟩
theorem Bk.ent {c : List Int} {d : List (List Int)} (h : Bk c d) {i j : Nat} (hi : i < c.length) (hj : j < c.length) : 0 ≤ (d.getD i []).getD j 0 ∧ (d.getD i []).getD j 0 ≤ 9 :=
  h.he i hi _ (getD_mem (by rw [h.hr i hi]; exact hj))
theorem Bk.row_take {c : List Int} {d : List (List Int)} (h : Bk c d) {i : Nat} (hi : i < c.length) (j : Nat) : 0 ≤ sm ((d.getD i []).take j) ∧ sm ((d.getD i []).take j) ≤ 36 := by
  have h1 := sm_bound ((d.getD i []).take j) 9 fun x hx => h.he i hi x (List.mem_of_mem_take hx)
  have h2 : ((d.getD i []).take j).length ≤ 4 := by have := h.hr i hi; have := h.n4; rw [List.length_take]; omega
  omega
theorem Bk.owes_bound {c : List Int} {d : List (List Int)} (h : Bk c d) {i : Nat} (hi : i < c.length) : 0 ≤ owesI d i ∧ owesI d i ≤ 36 := by
  have := h.row_take hi (d.getD i []).length
  rw [List.take_length] at this; exact this
theorem Bk.owed_bound {c : List Int} {d : List (List Int)} (h : Bk c d) {j : Nat} (hj : j < c.length) : ∀ i, i ≤ c.length → 0 ≤ owedI d i j ∧ owedI d i j ≤ 9 * i
  | 0, _ => by simp [owedI, sm]
  | i + 1, hi => by
    have h1 := h.owed_bound hj i (by omega)
    have h2 := h.ent (i := i) (by omega) hj
    rw [owedI_succ d i j (by rw [h.hd]; omega)]
    omega

theorem getD_bound {d : List (List Int)} {n : Nat} (h : ∀ r ∈ d, r.length ≤ n) (i : Nat) : (d.getD i []).length ≤ n := by
  rw [List.getD_eq_getElem?_getD]
  by_cases hi : i < d.length
  · rw [List.getElem?_eq_getElem hi]; exact h _ (List.getElem_mem hi)
  · rw [List.getElem?_eq_none (by omega)]; simp

theorem l1In_b (n a b : Int) : spec_l1In.f n a b = some (decide (a ≤ n ∧ n ≤ b)) := by
  unfold spec_l1In.f
  by_cases h : n ≥ a
  · rw [if_pos h]; congr 1; rw [Bool.eq_iff_iff, decide_eq_true_iff, decide_eq_true_iff]; omega
  · rw [if_neg h]; congr 1; symm; exact decide_eq_false (by omega)
theorem specBookOk_l1 (c : List Int) (d : List (List Int)) (i : Nat) (hi : i < d.length) (hr : (d.getD i []).length ≤ 9223372036854775807) (r : Bool) (hn : Ev (fun k => spec_BookOk.l0 k (wrap64 ((i : Int) + 1)) c d) r) :
    ∀ (m j : Nat), j + m = (d.getD i []).length → Ev (fun k => spec_BookOk.l1 k (i : Int) (j : Int) c d) (((d.getD i []).drop j).all debtOk && r)
  | 0, j => fun h => by
    rw [drop_end _ _ (by omega)]
    refine Ev.step (fun k => ?_) hn
    simp only [spec_BookOk.l1]
    rw [rdR_nat, if_pos (by omega), if_pos (by omega), if_neg (by omega)]
  | m + 1, j => fun h => by
    rw [drop_step _ j 0 (by omega), List.all_cons]
    have ih := specBookOk_l1 c d i hi hr r hn m (j + 1) (by omega)
    have hstep : ∀ k, spec_BookOk.l1 (k + 1) (i : Int) (j : Int) c d = if debtOk ((d.getD i []).getD j 0) = true then spec_BookOk.l1 k (i : Int) ((j + 1 : Nat) : Int) c d else some false := by
      intro k
      simp only [spec_BookOk.l1]
      rw [rdR_nat, if_pos (by omega), if_pos (by omega), if_pos (by omega), if_pos (by omega), rd_nat, l1In_b, w64 (show j < (d.getD i []).length by omega) hr]
      rfl
    refine Ev.step hstep ?_
    cases hb : debtOk ((d.getD i []).getD j 0) with
    | true => exact evPos rfl (by simpa using ih)
    | false => exact evNeg (by simp) (by simpa using Ev.now false)
theorem specBookOk_l0 (c : List Int) (d : List (List Int)) (hc : c.length ≤ 9223372036854775807) (hd : d.length = c.length) (hr : ∀ i, (d.getD i []).length ≤ 9223372036854775807) :
    ∀ (m i : Nat), i + m = c.length → Ev (fun k => spec_BookOk.l0 k (i : Int) c d) ((List.range' i (c.length - i)).all (rowOk c d))
  | 0, i => fun h => by
    rw [range_end _ _ (by omega)]
    refine Ev.step (f := fun _ => some true) (fun k => ?_) (Ev.now true)
    simp only [spec_BookOk.l0]
    rw [if_neg (by omega)]
  | m + 1, i => fun h => by
    rw [range_step _ _ (by omega), List.all_cons]
    have ih := specBookOk_l0 c d hc hd hr m (i + 1) (by omega)
    rw [← w64 (show i < c.length by omega) hc] at ih
    refine Ev.step (fun k => by simp only [spec_BookOk.l0]; rfl) ?_
    rw [rdR_nat]
    simp only [rd_nat, l1In_b, Option.bind_some]
    refine evPos (by omega) (evPos (by omega) ?_)
    have fin : ∀ b : Bool, b = true → Ev (fun k => spec_BookOk.j2 k (i : Int) b c d) false := fun b hb => by
      refine Ev.step (f := fun _ => some false) (fun k => ?_) (Ev.now false)
      simp only [spec_BookOk.j2]
      rw [if_pos hb]
    by_cases h1 : 0 ≤ c.getD i 0 ∧ c.getD i 0 ≤ 20
    · refine evPos (decide_eq_true_iff.2 h1) (evPos (by omega) ?_)
      by_cases h2 : (d.getD i []).length = c.length
      · refine evPos (by omega) (evPos (by omega) ?_)
        by_cases h3 : (d.getD i []).getD i 0 = 0
        · have l1 := specBookOk_l1 c d i (by omega) (hr i) _ ih (d.getD i []).length 0 (by omega)
          refine Ev.step (f := fun k => spec_BookOk.l1 k (i : Int) ((0 : Nat) : Int) c d) (fun k => ?_) (evIs l1 ?_)
          · simp only [spec_BookOk.j2]
            rw [if_neg (by simpa using h3)]; rfl
          · rw [rowOk_of h1 h2 h3, List.drop_zero]
        · exact evIs (fin _ (by simpa using h3)) (by rw [rowOk_f3 h3, Bool.false_and])
      · exact evNeg (by omega) (evIs (fin _ rfl) (by rw [rowOk_f2 h2, Bool.false_and]))
    · exact evNeg (fun h => h1 (decide_eq_true_iff.1 h)) (evIs (fin _ rfl) (by rw [rowOk_f1 h1, Bool.false_and]))
theorem specBookOk_f (c : List Int) (d : List (List Int)) (hc : c.length ≤ 9223372036854775807) (hr : ∀ i, (d.getD i []).length ≤ 9223372036854775807) : Ev (fun k => spec_BookOk.f k c d) (okB c d) := by
  refine Ev.congr (fun k => by unfold spec_BookOk.f; rw [l1In_b, Option.bind_some]) ?_
  have fin : ∀ b : Bool, b = true → Ev (fun k => spec_BookOk.j0 k b c d) false := fun b hb => by
    refine Ev.step (f := fun _ => some false) (fun k => ?_) (Ev.now false)
    simp only [spec_BookOk.j0]
    rw [if_pos hb]
  by_cases h1 : 1 ≤ c.length ∧ c.length ≤ 4
  · refine evPos (decide_eq_true_iff.2 (by omega)) ?_
    by_cases h2 : d.length = c.length
    · have l0 := specBookOk_l0 c d hc h2 hr c.length 0 (by omega)
      refine Ev.step (f := fun k => spec_BookOk.l0 k ((0 : Nat) : Int) c d) (fun k => ?_) (evIs l0 ?_)
      · simp only [spec_BookOk.j0]
        rw [if_neg (by simp [h2])]; rfl
      · rw [okB_of h1 h2]; rfl
    · exact evIs (fin _ (by simp; omega)) (by rw [okB_f2 h2])
  · exact evNeg (fun h => by have := decide_eq_true_iff.1 h; omega) (evIs (fin _ rfl) (by rw [okB_f1 h1]))

theorem isBook_l1 (c : List Int) (d : List (List Int)) (n D I : Int) (row : List Int) (hr : row.length ≤ 9223372036854775807) (r : Bool) (hn : Ev (fun k => impl_isBook.l0 k n d D (wrap64 (I + 1)) c d) r) :
    ∀ (m j : Nat), j + m = row.length → Ev (fun k => impl_isBook.l1 k n d D I row (row.length : Int) (j : Int) c d) ((row.drop j).all debtOk && r)
  | 0, j => fun h => by
    rw [drop_end _ _ (by omega)]
    refine Ev.step (fun k => ?_) hn
    simp only [impl_isBook.l1]
    rw [if_neg (by omega)]
  | m + 1, j => fun h => by
    rw [drop_step _ j 0 (by omega), List.all_cons]
    have ih := isBook_l1 c d n D I row hr r hn m (j + 1) (by omega)
    have hstep : ∀ k, impl_isBook.l1 (k + 1) n d D I row (row.length : Int) (j : Int) c d = if debtOk (row.getD j 0) = true then impl_isBook.l1 k n d D I row (row.length : Int) ((j + 1 : Nat) : Int) c d else some false := by
      intro k
      simp only [impl_isBook.l1]
      rw [if_pos (by omega), if_pos (by omega), if_pos (by omega), rd_nat, w64 (show j < row.length by omega) hr]
      unfold debtOk
      by_cases a : row.getD j 0 < 0
      · rw [if_pos a, if_neg (by rw [decide_eq_true_iff]; omega)]
      · by_cases b : row.getD j 0 > 9
        · rw [if_neg a, if_pos b, if_neg (by rw [decide_eq_true_iff]; omega)]
        · rw [if_neg a, if_neg b, if_pos (by rw [decide_eq_true_iff]; omega)]
    refine Ev.step hstep ?_
    cases hb : debtOk (row.getD j 0) with
    | true => exact evPos rfl (by simpa using ih)
    | false => exact evNeg (by simp) (by simpa using Ev.now false)
theorem isBook_l0 (c : List Int) (d : List (List Int)) (hc : c.length ≤ 9223372036854775807) (hd : d.length = c.length) (hr : ∀ i, (d.getD i []).length ≤ 9223372036854775807) :
    ∀ (m i : Nat), i + m = c.length → Ev (fun k => impl_isBook.l0 k (c.length : Int) d (d.length : Int) (i : Int) c d) ((List.range' i (c.length - i)).all (rowOk c d))
  | 0, i => fun h => by
    rw [range_end _ _ (by omega)]
    refine Ev.step (f := fun _ => some true) (fun k => ?_) (Ev.now true)
    simp only [impl_isBook.l0]
    rw [if_neg (by omega)]
  | m + 1, i => fun h => by
    rw [range_step _ _ (by omega), List.all_cons]
    have ih := isBook_l0 c d hc hd hr m (i + 1) (by omega)
    rw [← w64 (show i < c.length by omega) hc] at ih
    refine Ev.step (fun k => by simp only [impl_isBook.l0]; rfl) ?_
    rw [rdR_nat]
    simp only [rd_nat]
    refine evPos (by omega) (evPos (by omega) (evPos (by omega) (evPos (by omega) ?_)))
    have fin : ∀ b : Bool, b = true → Ev (fun k => impl_isBook.j2 k (c.length : Int) (d.getD i []) d (d.length : Int) (i : Int) b c d) false := fun b hb => by
      refine Ev.step (f := fun _ => some false) (fun k => ?_) (Ev.now false)
      simp only [impl_isBook.j2]
      rw [if_pos hb]
    by_cases h1 : c.getD i 0 < 0
    · refine evPos h1 (evIs (fin _ rfl) ?_)
      rw [rowOk_f1 (by omega), Bool.false_and]
    refine evNeg h1 ?_
    by_cases h2 : c.getD i 0 > 20
    · refine evPos h2 (evIs (fin _ rfl) ?_)
      rw [rowOk_f1 (by omega), Bool.false_and]
    refine evNeg h2 ?_
    have h12 : 0 ≤ c.getD i 0 ∧ c.getD i 0 ≤ 20 := by omega
    by_cases h3 : (d.getD i []).length = c.length
    · refine evPos (by omega) (evPos (by omega) ?_)
      by_cases h4 : (d.getD i []).getD i 0 = 0
      · have l1 := isBook_l1 c d (c.length : Int) (d.length : Int) (i : Int) (d.getD i []) (hr i) _ ih (d.getD i []).length 0 (by omega)
        refine Ev.step (f := fun k => impl_isBook.l1 k (c.length : Int) d (d.length : Int) (i : Int) (d.getD i []) ((d.getD i []).length : Int) ((0 : Nat) : Int) c d) (fun k => ?_) (evIs l1 ?_)
        · simp only [impl_isBook.j2]
          rw [if_neg (by simpa using h4)]; rfl
        · rw [rowOk_of h12 h3 h4, List.drop_zero]
      · exact evIs (fin _ (by simpa using h4)) (by rw [rowOk_f3 h4, Bool.false_and])
    · exact evNeg (by omega) (evIs (fin _ rfl) (by rw [rowOk_f2 h3, Bool.false_and]))
theorem isBook_f (c : List Int) (d : List (List Int)) (hc : c.length ≤ 9223372036854775807) (hr : ∀ i, (d.getD i []).length ≤ 9223372036854775807) : Ev (fun k => impl_isBook.f k c d) (okB c d) := by
  refine Ev.congr (fun k => by unfold impl_isBook.f; rfl) ?_
  have fin : ∀ b : Bool, b = true → Ev (fun k => impl_isBook.j0 k (c.length : Int) b c d) false := fun b hb => by
    refine Ev.step (f := fun _ => some false) (fun k => ?_) (Ev.now false)
    simp only [impl_isBook.j0]
    rw [if_pos hb]
  by_cases h1 : (c.length : Int) < 1
  · exact evPos h1 (evIs (fin _ rfl) (by rw [okB_f1 (by omega)]))
  refine evNeg h1 ?_
  by_cases h2 : (c.length : Int) > 4
  · exact evPos h2 (evIs (fin _ rfl) (by rw [okB_f1 (by omega)]))
  refine evNeg h2 ?_
  have h12 : 1 ≤ c.length ∧ c.length ≤ 4 := by omega
  by_cases h3 : d.length = c.length
  · have l0 := isBook_l0 c d hc h3 hr c.length 0 (by omega)
    refine Ev.step (f := fun k => impl_isBook.l0 k (c.length : Int) d (d.length : Int) ((0 : Nat) : Int) c d) (fun k => ?_) (evIs l0 ?_)
    · simp only [impl_isBook.j0]
      rw [if_neg (by simp [h3])]; rfl
    · rw [okB_of h12 h3]; rfl
  · exact evIs (fin _ (by simp; omega)) (by rw [okB_f2 h3])

theorem szIntS_f (l : List Int) (a : Int) (ha : -1 ≤ a ∧ a ≤ 1048576) (hl : l.length ≤ 9223372036854775807) : laws_szIntS.f l a = some (if a - (l.length : Int) < 0 then -1 else a - (l.length : Int)) := by
  unfold laws_szIntS.f
  have w : wrap64 (a - (l.length : Int)) = a - (l.length : Int) := by unfold wrap64; omega
  rw [w]; split <;> rfl
theorem szIntSS_l0 (d : List (List Int)) (hd : d.length ≤ 9223372036854775807) (hr : ∀ i, (d.getD i []).length ≤ 9223372036854775807) :
    ∀ (m i : Nat) (a : Int), i + m = d.length → 0 ≤ a ∧ a ≤ 1048576 → ∃ t, Ev (fun k => laws_szIntSS.l0 k d a (i : Int)) t ∧ -1 ≤ t ∧ t ≤ 1048576 ∧ (0 ≤ t → ∀ j, i ≤ j → j < d.length → (d.getD j []).length ≤ 1048576)
  | 0, i, a => fun h ha => by
    refine ⟨a, Ev.step (f := fun _ => some a) (fun k => ?_) (Ev.now a), by omega, by omega, fun _ j h1 h2 => by omega⟩
    simp only [laws_szIntSS.l0]
    rw [if_neg (by omega)]
  | m + 1, i, a => fun h ha => by
    have hs : ∀ k, laws_szIntSS.l0 (k + 1) d a (i : Int) = if a - ((d.getD i []).length : Int) < 0 then some (-1) else laws_szIntSS.l0 k d (a - ((d.getD i []).length : Int)) ((i + 1 : Nat) : Int) := by
      intro k
      simp only [laws_szIntSS.l0]
      rw [if_pos (by omega), if_pos (by omega), rdR_nat, szIntS_f _ _ (by omega) (hr i), w64 (show i < d.length by omega) hd]
      simp only [Option.bind_some]
      by_cases hn : a - ((d.getD i []).length : Int) < 0
      · rw [if_pos hn, if_pos (by omega), if_pos hn]
      · rw [if_neg hn, if_neg hn]
    by_cases hn : a - ((d.getD i []).length : Int) < 0
    · exact ⟨-1, Ev.step hs (evPos hn (Ev.now _)), by omega, by omega, fun h => by omega⟩
    · obtain ⟨t, h1, h2, h3, h4⟩ := szIntSS_l0 d hd hr m (i + 1) (a - ((d.getD i []).length : Int)) (by omega) (by omega)
      refine ⟨t, Ev.step hs (evNeg hn h1), h2, h3, fun h0 j j1 j2 => ?_⟩
      by_cases e : j = i
      · subst e; omega
      · exact h4 h0 j (by omega) j2
theorem szBook_f (c : List Int) (d : List (List Int)) (hc : c.length ≤ 9223372036854775807) (hd : d.length ≤ 9223372036854775807) (hr : ∀ i, (d.getD i []).length ≤ 9223372036854775807) :
    ∃ t, Ev (fun k => laws_szBook.f k c d 1048576) t ∧ (¬ t < 0 → c.length ≤ 1048576 ∧ d.length ≤ 1048576 ∧ ∀ j, (d.getD j []).length ≤ 1048576) := by
  have hs : ∀ k, laws_szBook.f k c d 1048576 = if 1048576 - (c.length : Int) < 0 then some (-1) else (laws_szIntSS.f k d (1048576 - (c.length : Int))).bind fun t => if t < 0 then some (-1) else some t := by
    intro k
    unfold laws_szBook.f
    rw [szIntS_f _ _ (by omega) hc]
    simp only [Option.bind_some]
    by_cases hn : 1048576 - (c.length : Int) < 0
    · rw [if_pos hn, if_pos (by omega), if_pos hn]
    · rw [if_neg hn, if_neg hn]
  by_cases hn : 1048576 - (c.length : Int) < 0
  · exact ⟨-1, Ev.congr hs (evPos hn (Ev.now _)), fun h => by omega⟩
  · have w : wrap64 (1048576 - (c.length : Int) - (d.length : Int)) = 1048576 - (c.length : Int) - (d.length : Int) := by unfold wrap64; omega
    by_cases hm : 1048576 - (c.length : Int) - (d.length : Int) < 0
    · refine ⟨-1, Ev.congr hs (evNeg hn (Ev.bind (a := -1) (Ev.congr (fun k => by unfold laws_szIntSS.f; rw [w]) (evPos hm (Ev.now _))) (evPos (by omega) (Ev.now _)))), fun h => by omega⟩
    · obtain ⟨t, h1, h2, h3, h4⟩ := szIntSS_l0 d hd hr d.length 0 (1048576 - (c.length : Int) - (d.length : Int)) (by omega) (by omega)
      refine ⟨if t < 0 then -1 else t, Ev.congr hs (evNeg hn (Ev.bind (a := t) (Ev.congr (fun k => by unfold laws_szIntSS.f; rw [w, if_neg hm]; rfl) h1) ?_)), fun h => ⟨by omega, by omega, fun j => ?_⟩⟩
      · split <;> exact Ev.now _
      · have ht : 0 ≤ t := by split at h <;> omega
        by_cases hj : j < d.length
        · exact h4 ht j (by omega) hj
        · rw [List.getD_eq_getElem?_getD, List.getElem?_eq_none (by omega)]; simp

theorem fill_step {α : Type} (xs : List α) (z y : α) (i : Nat) (h : i < xs.length) : (xs.take i ++ List.replicate (xs.length - i) z).set i (xs.getD i y) = xs.take (i + 1) ++ List.replicate (xs.length - (i + 1)) z := by
  have hl : (xs.take i).length = i := by simp; omega
  rw [List.set_append_right _ _ (by omega), hl, Nat.sub_self]
  have : xs.length - i = (xs.length - (i + 1)) + 1 := by omega
  rw [this, List.replicate_succ, List.set_cons_zero, List.take_add_one, List.getElem?_eq_getElem h, List.getD_eq_getElem?_getD, List.getElem?_eq_getElem h, List.append_assoc]
  rfl
theorem toIntS_l0 (l : List Int) (hl : l.length ≤ 1048576) : ∀ (m i : Nat), i + m = l.length → Ev (fun k => laws_toIntS.l0 k l (l.take i ++ List.replicate (l.length - i) 0) (i : Int)) l
  | 0, i => fun h => by
    refine Ev.step (f := fun _ => some l) (fun k => ?_) (Ev.now l)
    simp only [laws_toIntS.l0]
    rw [if_neg (by omega), List.take_of_length_le (by omega), show l.length - i = 0 by omega]
    simp
  | m + 1, i => fun h => by
    refine Ev.step (fun k => ?_) (toIntS_l0 l hl m (i + 1) (by omega))
    simp only [laws_toIntS.l0]
    rw [if_pos (by omega), if_pos (by omega), if_pos (by simp; omega), rd_nat, Int.toNat_natCast, fill_step _ _ _ _ (by omega), w64 (show i < l.length by omega) (by omega)]
theorem toIntS_f (l : List Int) (hl : l.length ≤ 1048576) : Ev (fun k => laws_toIntS.f k l) l := by
  refine Ev.congr (fun k => ?_) (toIntS_l0 l hl l.length 0 (by omega))
  unfold laws_toIntS.f
  rw [if_pos (by omega), if_pos (by omega)]
  rfl
theorem toIntSS_l0 (l : List (List Int)) (hl : l.length ≤ 1048576) (hr : ∀ i, (l.getD i []).length ≤ 1048576) : ∀ (m i : Nat), i + m = l.length → Ev (fun k => laws_toIntSS.l0 k l (l.take i ++ List.replicate (l.length - i) []) (i : Int)) l
  | 0, i => fun h => by
    refine Ev.step (f := fun _ => some l) (fun k => ?_) (Ev.now l)
    simp only [laws_toIntSS.l0]
    rw [if_neg (by omega), List.take_of_length_le (by omega), show l.length - i = 0 by omega]
    simp
  | m + 1, i => fun h => by
    refine Ev.step (fun k => ?_) (Ev.bind (f := fun k t => laws_toIntSS.l0 k l ((l.take i ++ List.replicate (l.length - i) []).set i t) ((i + 1 : Nat) : Int)) (toIntS_f (l.getD i []) (hr i)) ?_)
    · simp only [laws_toIntSS.l0]
      rw [if_pos (by omega), if_pos (by omega), rdR_nat, w64 (show i < l.length by omega) (by omega)]
      congr 1
      funext t
      rw [if_pos (by simp; omega), Int.toNat_natCast]
    · rw [fill_step _ _ _ _ (by omega)]
      exact toIntSS_l0 l hl hr m (i + 1) (by omega)
theorem toIntSS_f (l : List (List Int)) (hl : l.length ≤ 1048576) (hr : ∀ i, (l.getD i []).length ≤ 1048576) : Ev (fun k => laws_toIntSS.f k l) l := by
  refine Ev.congr (fun k => ?_) (toIntSS_l0 l hl hr l.length 0 (by omega))
  unfold laws_toIntSS.f
  rw [if_pos (by omega), if_pos (by omega)]
  rfl
theorem toBook_f (c : List Int) (d : List (List Int)) (hc : c.length ≤ 1048576) (hd : d.length ≤ 1048576) (hr : ∀ i, (d.getD i []).length ≤ 1048576) : Ev (fun k => laws_toBook.f k c d) (c, d) :=
  Ev.congr (fun k => by unfold laws_toBook.f; rfl) (Ev.bind (toIntS_f c hc) (Ev.bind (toIntSS_f d hd hr) (Ev.now (c, d))))

theorem eqIntS_l0 (l : List Int) (hl : l.length ≤ 9223372036854775807) : ∀ (m i : Nat), i + m = l.length → Ev (fun k => laws_eqIntS.l0 k l l (i : Int)) true
  | 0, i => fun h => by
    refine Ev.step (f := fun _ => some true) (fun k => ?_) (Ev.now true)
    simp only [laws_eqIntS.l0]
    rw [if_neg (by omega)]
  | m + 1, i => fun h => by
    refine Ev.step (fun k => ?_) (eqIntS_l0 l hl m (i + 1) (by omega))
    simp only [laws_eqIntS.l0]
    rw [if_pos (by omega), if_pos (by omega), if_pos (by omega), if_pos trivial, w64 (show i < l.length by omega) hl]
theorem eqIntS_f (l : List Int) (hl : l.length ≤ 9223372036854775807) : Ev (fun k => laws_eqIntS.f k l l) true := by
  refine Ev.congr (fun k => ?_) (eqIntS_l0 l hl l.length 0 (by omega))
  unfold laws_eqIntS.f
  rw [if_pos rfl]; rfl

theorem eqIntSS_l0 (l : List (List Int)) (hl : l.length ≤ 9223372036854775807) (hr : ∀ i, (l.getD i []).length ≤ 9223372036854775807) : ∀ (m i : Nat), i + m = l.length → Ev (fun k => laws_eqIntSS.l0 k l l (i : Int)) true
  | 0, i => fun h => by
    refine Ev.step (f := fun _ => some true) (fun k => ?_) (Ev.now true)
    simp only [laws_eqIntSS.l0]
    rw [if_neg (by omega)]
  | m + 1, i => fun h => by
    have ih := eqIntSS_l0 l hl hr m (i + 1) (by omega)
    refine Ev.step (f := fun k => (laws_eqIntS.f k (l.getD i []) (l.getD i [])).bind fun t => if t = true then laws_eqIntSS.l0 k l l ((i + 1 : Nat) : Int) else some false) (fun k => ?_) (Ev.bind (eqIntS_f _ (hr i)) (evPos rfl ih))
    simp only [laws_eqIntSS.l0]
    rw [if_pos (by omega), if_pos (by omega), if_pos (by omega), rdR_nat, w64 (show i < l.length by omega) hl]
theorem eqIntSS_f (l : List (List Int)) (hl : l.length ≤ 9223372036854775807) (hr : ∀ i, (l.getD i []).length ≤ 9223372036854775807) : Ev (fun k => laws_eqIntSS.f k l l) true := by
  refine Ev.congr (fun k => ?_) (eqIntSS_l0 l hl hr l.length 0 (by omega))
  unfold laws_eqIntSS.f
  rw [if_pos rfl]; rfl
theorem eqBook_f (c : List Int) (d : List (List Int)) (hc : c.length ≤ 9223372036854775807) (hd : d.length ≤ 9223372036854775807) (hr : ∀ i, (d.getD i []).length ≤ 9223372036854775807) : Ev (fun k => laws_eqBook.f k c d c d) true :=
  Ev.congr (fun k => by unfold laws_eqBook.f; rfl) (Ev.bind (eqIntS_f c hc) (evPos rfl (Ev.bind (eqIntSS_f d hd hr) (evPos rfl (Ev.now _)))))

/-- The numbers from a on. -/
def seqF (a : Int) (n : Nat) : List Int := (List.range n).map fun (j : Nat) => a + (j : Int)
theorem seqF_succ (a : Int) (n : Nat) : seqF a (n + 1) = seqF a n ++ [a + (n : Int)] := by unfold seqF; rw [rmap_succ]
theorem markIntS_l0 (l : List Int) (a : Int) (ha : 0 ≤ a ∧ a ≤ 4000000000000000000) (hl : l.length ≤ 1048576) :
    ∀ m i, i + m = l.length → Ev (fun k => laws_markIntS.l0 k (seqF a i ++ l.drop i) (a + (i : Int)) (i : Int)) (a + (l.length : Int), seqF a l.length)
  | 0, i => fun h => by
    refine Ev.step (f := fun _ => some (a + (l.length : Int), seqF a l.length)) (fun k => ?_) (Ev.now _)
    simp only [laws_markIntS.l0]
    have hi : i = l.length := by omega
    subst hi
    rw [if_neg (by simp [seqF]), List.drop_length, List.append_nil]
  | m + 1, i => fun h => by
    refine Ev.step (fun k => ?_) (markIntS_l0 l a ha hl m (i + 1) (by omega))
    simp only [laws_markIntS.l0]
    have w : wrap64 (a + (i : Int) + 1) = a + ((i + 1 : Nat) : Int) := by unfold wrap64; omega
    rw [if_pos (by simp [seqF]; omega), if_pos (by omega), Int.toNat_natCast, drop_step l i 0 (by omega), mid_set _ _ _ _ _ (by simp [seqF]), seqF_succ, w, w64 (show i < l.length by omega) (by omega), List.append_assoc]; rfl
theorem markIntS_f (l : List Int) (a : Int) (ha : 0 ≤ a ∧ a ≤ 4000000000000000000) (hl : l.length ≤ 1048576) : Ev (fun k => laws_markIntS.f k l a) (a + (l.length : Int), seqF a l.length) :=
  Ev.congr (fun k => by unfold laws_markIntS.f; simp [seqF]) (markIntS_l0 l a ha hl l.length 0 (by omega))
theorem heldIntS_l0 (a : Int) (n : Nat) (ha : 0 ≤ a ∧ a ≤ 4000000000000000000) (hn : n ≤ 1048576) :
    ∀ m i, i + m = n → Ev (fun k => laws_heldIntS.l0 k (seqF a n) (a + (i : Int)) (i : Int)) (a + (n : Int))
  | 0, i => fun h => by
    refine Ev.step (f := fun _ => some (a + (n : Int))) (fun k => ?_) (Ev.now _)
    simp only [laws_heldIntS.l0]
    have hi : i = n := by omega
    subst hi
    rw [if_neg (by simp [seqF])]
  | m + 1, i => fun h => by
    refine Ev.step (fun k => ?_) (heldIntS_l0 a n ha hn m (i + 1) (by omega))
    simp only [laws_heldIntS.l0]
    have w : wrap64 (a + (i : Int) + 1) = a + ((i + 1 : Nat) : Int) := by unfold wrap64; omega
    rw [if_pos (by simp [seqF]; omega), if_pos (by omega), rd_nat, if_pos (by unfold seqF; rw [rmap_get _ _ _ (by omega)]), w, w64 (show i < n by omega) (by omega)]
theorem heldIntS_f (a : Int) (n : Nat) (ha : 0 ≤ a ∧ a ≤ 4000000000000000000) (hn : n ≤ 1048576) : Ev (fun k => laws_heldIntS.f k (seqF a n) a) (a + (n : Int)) :=
  Ev.congr (fun k => by unfold laws_heldIntS.f; simp) (heldIntS_l0 a n ha hn n 0 (by omega))
theorem markIntSS_l0 (n : Nat) (hn : n ≤ 1048576) : ∀ (m i : Nat) (x : List (List Int)) (a : Int), x.length = n → (∀ j, (x.getD j []).length ≤ 1048576) → i + m = n → 0 ≤ a ∧ a ≤ 1048576 * (i + 2 : Int) →
    ∃ t r, Ev (fun k => laws_markIntSS.l0 k x a (i : Int)) (t, r) ∧ 0 ≤ t
  | 0, i, x, a => fun hx hr h ha => by
    refine ⟨a, x, Ev.step (f := fun _ => some (a, x)) (fun k => ?_) (Ev.now _), ha.1⟩
    simp only [laws_markIntSS.l0]
    rw [if_neg (by omega)]
  | m + 1, i, x, a => fun hx hr h ha => by
    have hm := markIntS_f (x.getD i []) a (by omega) (hr i)
    have hri := hr i
    obtain ⟨t, r, h1, h2⟩ := markIntSS_l0 n hn m (i + 1) (x.set i (seqF a (x.getD i []).length)) (a + ((x.getD i []).length : Int)) (by simp; omega)
      (fun j => by
        rw [List.getD_eq_getElem?_getD, List.getElem?_set]
        by_cases e : i = j
        · subst e; rw [if_pos rfl, if_pos (by omega)]; simpa [seqF] using hri
        · rw [if_neg e, ← List.getD_eq_getElem?_getD]; exact hr j)
      (by omega) (by omega)
    refine ⟨t, r, Ev.step (f := fun k => (laws_markIntS.f k (x.getD i []) a).bind fun bt => laws_markIntSS.l0 k (x.set i bt.2) bt.1 ((i + 1 : Nat) : Int)) (fun k => ?_) (Ev.bind hm h1), h2⟩
    simp only [laws_markIntSS.l0]
    rw [if_pos (by omega), if_pos (by omega), rdR_nat, Int.toNat_natCast, w64 (show i < n by omega) (by omega)]
theorem markSS_from (d : List (List Int)) (hd : d.length ≤ 1048576) (hr : ∀ j, (d.getD j []).length ≤ 1048576) (a : Int) (ha : 0 ≤ a ∧ a ≤ 2097152) : ∃ t r, Ev (fun k => laws_markIntSS.l0 k d a 0) (t, r) ∧ 0 ≤ t :=
  markIntSS_l0 d.length hd d.length 0 d a rfl hr (by omega) (by omega)
theorem markBook_f (c : List Int) (d : List (List Int)) (hc : c.length ≤ 1048576) (hd : d.length ≤ 1048576) (hr : ∀ j, (d.getD j []).length ≤ 1048576) : ∃ t, Ev (fun k => laws_markBook.f k c d 1) t ∧ ¬ t < 0 := by
  have h1 := markIntS_f c 1 (by omega) hc
  -- one bound for all that follows
  obtain ⟨t, r, h2, h3⟩ : ∃ t r, Ev (fun k => laws_markIntSS.l0 k d (1 + (c.length : Int)) 0) (t, r) ∧ 0 ≤ t := markSS_from d hd hr (1 + (c.length : Int)) (by omega)
  exact ⟨t, Ev.congr (fun k => by unfold laws_markBook.f; rfl) (Ev.bind h1 (Ev.bind (show Ev (fun k => laws_markIntSS.f k d (1 + (c.length : Int))) (t, r) from h2) (Ev.now t))), by omega⟩

/-- The rows' numbers from a on. -/
def seqSS : Int → List (List Int) → List (List Int)
  | _, [] => []
  | a, r :: rs => seqF a r.length :: seqSS (a + (r.length : Int)) rs
def totSS : List (List Int) → Nat
  | [] => 0
  | r :: rs => r.length + totSS rs
theorem get_mid (a : List (List Int)) (v : List Int) (b : List (List Int)) : (a ++ v :: b).getD a.length [] = v := by
  rw [List.getD_eq_getElem?_getD, List.getElem?_append_right (by omega), Nat.sub_self]; rfl
theorem set_mid (a : List (List Int)) (v u : List Int) (b : List (List Int)) : (a ++ v :: b).set a.length u = (a ++ [u]) ++ b := by
  rw [List.set_append_right _ _ (by omega), Nat.sub_self, List.set_cons_zero, List.append_assoc]; rfl
theorem markSS_l0 : ∀ (rs done : List (List Int)) (a : Int), done.length + rs.length ≤ 1048576 → (∀ r ∈ rs, r.length ≤ 1048576) → 0 ≤ a → a + (totSS rs : Int) ≤ 4000000000000000000 →
    Ev (fun k => laws_markIntSS.l0 k (done ++ rs) a (done.length : Int)) (a + (totSS rs : Int), done ++ seqSS a rs)
  | [], done, a => fun hl hr h0 h1 => by
    refine Ev.step (f := fun _ => some (a, done ++ [])) (fun k => ?_) (by simp only [totSS, seqSS]; rw [show a + ((0 : Nat) : Int) = a by omega]; exact Ev.now _)
    rw [laws_markIntSS.l0, List.append_nil, if_neg (by omega)]
  | r :: rs, done, a => fun hl hr h0 h1 => by
    have hrl := hr r List.mem_cons_self
    simp only [totSS, List.length_cons] at h1 hl
    have hm := markIntS_f r a (by omega) hrl
    have ih := markSS_l0 rs (done ++ [seqF a r.length]) (a + (r.length : Int)) (by simp; omega) (fun x hx => hr x (List.mem_cons_of_mem _ hx)) (by omega) (by omega)
    have e1 : (a + (r.length : Int)) + (totSS rs : Int) = a + (totSS (r :: rs) : Int) := by simp only [totSS]; omega
    have e2 : (done ++ [seqF a r.length]) ++ seqSS (a + (r.length : Int)) rs = done ++ seqSS a (r :: rs) := by rw [List.append_assoc]; rfl
    have e3 : (((done ++ [seqF a r.length]).length : Nat) : Int) = wrap64 ((done.length : Int) + 1) := by rw [w64 (show done.length < 2000000 by omega) (by omega)]; simp
    rw [e1, e2, e3] at ih
    refine Ev.step (f := fun k => (laws_markIntS.f k r a).bind fun bt => laws_markIntSS.l0 k ((done ++ r :: rs).set done.length bt.2) bt.1 (wrap64 ((done.length : Int) + 1))) (fun k => ?_) (Ev.bind hm (by show Ev (fun k => laws_markIntSS.l0 k ((done ++ r :: rs).set done.length (seqF a r.length)) (a + (r.length : Int)) (wrap64 ((done.length : Int) + 1))) _; rw [set_mid]; exact ih))
    simp only [laws_markIntSS.l0]
    rw [if_pos (by simp; omega), if_pos (by omega), rdR_nat, get_mid, Int.toNat_natCast]
theorem markSS_f (rs : List (List Int)) (a : Int) (hl : rs.length ≤ 1048576) (hr : ∀ r ∈ rs, r.length ≤ 1048576) (h0 : 0 ≤ a) (h1 : a + (totSS rs : Int) ≤ 4000000000000000000) :
    Ev (fun k => laws_markIntSS.f k rs a) (a + (totSS rs : Int), seqSS a rs) :=
  markSS_l0 rs [] a (by simpa using hl) hr h0 h1
theorem heldSS_l0 : ∀ (rs done : List (List Int)) (a : Int), done.length + rs.length ≤ 1048576 → (∀ r ∈ rs, r.length ≤ 1048576) → 0 ≤ a → a + (totSS rs : Int) ≤ 4000000000000000000 →
    Ev (fun k => laws_heldIntSS.l0 k (done ++ seqSS a rs) a (done.length : Int)) (a + (totSS rs : Int))
  | [], done, a => fun hl hr h0 h1 => by
    refine Ev.step (f := fun _ => some a) (fun k => ?_) (by simp only [totSS]; rw [show a + ((0 : Nat) : Int) = a by omega]; exact Ev.now _)
    show laws_heldIntSS.l0 (k + 1) (done ++ []) a (done.length : Int) = _
    rw [laws_heldIntSS.l0, List.append_nil, if_neg (by omega)]
  | r :: rs, done, a => fun hl hr h0 h1 => by
    have hrl := hr r List.mem_cons_self
    simp only [totSS, List.length_cons] at h1 hl
    have hm := heldIntS_f a r.length (by omega) hrl
    have ih := heldSS_l0 rs (done ++ [seqF a r.length]) (a + (r.length : Int)) (by simp; omega) (fun x hx => hr x (List.mem_cons_of_mem _ hx)) (by omega) (by omega)
    have e0 : seqSS a (r :: rs) = seqF a r.length :: seqSS (a + (r.length : Int)) rs := rfl
    rw [e0]
    have e1 : (a + (r.length : Int)) + (totSS rs : Int) = a + (totSS (r :: rs) : Int) := by simp only [totSS]; omega
    have e2 : (done ++ [seqF a r.length]) ++ seqSS (a + (r.length : Int)) rs = done ++ seqF a r.length :: seqSS (a + (r.length : Int)) rs := by rw [List.append_assoc]; rfl
    have e3 : (((done ++ [seqF a r.length]).length : Nat) : Int) = wrap64 ((done.length : Int) + 1) := by rw [w64 (show done.length < 2000000 by omega) (by omega)]; simp
    rw [e1, e2, e3] at ih
    refine Ev.step (f := fun k => (laws_heldIntS.f k (seqF a r.length) a).bind fun t => if t < 0 then some (-1) else laws_heldIntSS.l0 k (done ++ seqF a r.length :: seqSS (a + (r.length : Int)) rs) t (wrap64 ((done.length : Int) + 1))) (fun k => ?_) (Ev.bind hm (evNeg (by omega) ih))
    rw [laws_heldIntSS.l0, if_pos (by simp; omega), if_pos (by omega), rdR_nat, get_mid]
theorem heldSS_f (rs : List (List Int)) (a : Int) (hl : rs.length ≤ 1048576) (hr : ∀ r ∈ rs, r.length ≤ 1048576) (h0 : 0 ≤ a) (h1 : a + (totSS rs : Int) ≤ 4000000000000000000) :
    Ev (fun k => laws_heldIntSS.f k (seqSS a rs) a) (a + (totSS rs : Int)) :=
  heldSS_l0 rs [] a (by simpa using hl) hr h0 h1
theorem totSS_le {b : Nat} : ∀ (rs : List (List Int)), (∀ r ∈ rs, r.length ≤ b) → totSS rs ≤ b * rs.length
  | [], _ => by simp [totSS]
  | r :: rs, h => by
    have h1 := h r List.mem_cons_self
    have h2 := totSS_le rs (fun x hx => h x (List.mem_cons_of_mem _ hx))
    simp only [totSS, List.length_cons, Nat.mul_succ]
    omega
theorem mem_bound {b : Nat} {rs : List (List Int)} (h : ∀ i, (rs.getD i []).length ≤ b) : ∀ r ∈ rs, r.length ≤ b := by
  intro r hr
  obtain ⟨i, hi, e⟩ := List.mem_iff_getElem.1 hr
  have := h i
  rw [List.getD_eq_getElem?_getD, List.getElem?_eq_getElem hi] at this
  rw [← e]; exact this

theorem heldBook_f (V0 : List Int) (V1 : List (List Int)) (h0 : V0.length ≤ 1000) (h1 : V1.length ≤ 1000) (hr : ∀ r ∈ V1, r.length ≤ 1000) :
    Ev (fun k => laws_heldBook.f k (seqF 1 V0.length) (seqSS (1 + (V0.length : Int)) V1) 1) (1 + (V0.length : Int) + (totSS V1 : Int)) := by
  have gt := totSS_le V1 hr
  have hb : 1000 * V1.length ≤ 1000000 := by omega
  have a := heldIntS_f 1 V0.length (by omega) (by omega)
  have b := heldSS_f V1 (1 + (V0.length : Int)) (by omega) (fun r h => by have := hr r h; omega) (by omega) (by omega)
  have n1 : ¬ ((1 : Int) + (V0.length : Int) < 0) := by omega
  have n2 : ¬ ((1 : Int) + (V0.length : Int) + (totSS V1 : Int) < 0) := by omega
  refine Ev.congr (fun k => by unfold laws_heldBook.f; rfl) (Ev.bind a ?_)
  refine evNeg n1 ?_
  refine Ev.bind b ?_
  exact evNeg n2 (Ev.now _)

def vec (n : Nat) (f : Nat → Int) : List Int := (List.range n).map f
def mat (n : Nat) (R : Nat → Nat → Int) : List (List Int) := (List.range n).map fun p => vec n (R p)
def upd (f : Nat → Int) (i : Nat) (y : Int) : Nat → Int := fun p => if p = i then y else f p
def upd2 (R : Nat → Nat → Int) (i k : Nat) (y : Int) : Nat → Nat → Int := fun p => if p = i then upd (R p) k y else R p
theorem vec_len (n : Nat) (f : Nat → Int) : (vec n f).length = n := by simp [vec]
theorem mat_len (n : Nat) (R : Nat → Nat → Int) : (mat n R).length = n := by simp [mat]
theorem vec_set (n : Nat) (f : Nat → Int) (i : Nat) (y : Int) : (vec n f).set i y = vec n (upd f i y) := rmap_set f n i y
theorem vec_get (n : Nat) (f : Nat → Int) (i : Nat) (h : i < n) : (vec n f).getD i 0 = f i := rmap_get f n i h
theorem mat_get (n : Nat) (R : Nat → Nat → Int) (i : Nat) (h : i < n) : (mat n R).getD i [] = vec n (R i) := by
  unfold mat; rw [List.getD_eq_getElem?_getD, List.getElem?_map, List.getElem?_range h]; rfl
theorem mat_set (n : Nat) (R : Nat → Nat → Int) (i k : Nat) (y : Int) : (mat n R).set i (vec n (upd (R i) k y)) = mat n (upd2 R i k y) := by
  unfold mat
  rw [rmap_set]
  refine rmap_congr fun j _ => ?_
  unfold upd2
  by_cases e : j = i
  · subst e; rw [if_pos rfl, if_pos rfl]
  · rw [if_neg e, if_neg e]
theorem upd_at (f : Nat → Int) (i : Nat) (y : Int) : upd f i y i = y := if_pos rfl
theorem upd_ne (f : Nat → Int) (i : Nat) (y : Int) {p : Nat} (h : p ≠ i) : upd f i y p = f p := if_neg h
/-- The sum of n numbers. -/
def S (n : Nat) (f : Nat → Int) : Int := sm (vec n f)
theorem S_zero (f : Nat → Int) : S 0 f = 0 := by simp [S, vec, sm]
theorem S_succ (n : Nat) (f : Nat → Int) : S (n + 1) f = S n f + f n := by unfold S vec; rw [rmap_succ, sm_append]; simp [sm]
theorem S_congr {n : Nat} {f g : Nat → Int} (h : ∀ p, p < n → f p = g p) : S n f = S n g := by unfold S vec; rw [rmap_congr h]
theorem S_upd (f : Nat → Int) (i : Nat) (y : Int) : ∀ n, i < n → S n (upd f i y) = S n f - f i + y
  | 0, h => by omega
  | n + 1, h => by
    rw [S_succ, S_succ]
    by_cases e : i = n
    · subst e
      rw [S_congr (g := f) (fun p hp => upd_ne f i y (by omega)), upd_at]; omega
    · rw [S_upd f i y n (by omega), upd_ne f i y (fun h => e h.symm)]; omega
theorem S_nonneg {f : Nat → Int} : ∀ {n : Nat}, (∀ p, p < n → 0 ≤ f p) → 0 ≤ S n f ∧ ∀ p, p < n → f p ≤ S n f
  | 0, _ => ⟨by rw [S_zero]; omega, fun p hp => by omega⟩
  | n + 1, h => by
    obtain ⟨a, b⟩ := S_nonneg (n := n) fun p hp => h p (by omega)
    have c := h n (by omega)
    rw [S_succ]
    refine ⟨by omega, fun p hp => ?_⟩
    by_cases e : p = n
    · subst e; omega
    · have := b p (by omega); omega
theorem S_neg (n : Nat) (f : Nat → Int) : S n (fun p => -(f p)) = -(S n f) := by
  induction n with
  | zero => simp [S_zero]
  | succ n ih => rw [S_succ, S_succ, ih]; omega
theorem S_nonpos {f : Nat → Int} {n : Nat} (h : ∀ p, p < n → f p ≤ 0) : ∀ p, p < n → S n f ≤ f p := fun p hp => by
  have h1 := (S_nonneg (n := n) (f := fun p => -(f p)) (fun q hq => by have := h q hq; omega)).2 p hp
  rw [S_neg] at h1
  omega

theorem rd_vec' (n : Nat) (f : Nat → Int) (i : Nat) (h : i < n) : rd (vec n f) (i : Int) = f i := by rw [rd_nat, vec_get n f i h]
theorem rd_mat' (n : Nat) (R : Nat → Nat → Int) (i : Nat) (h : i < n) : rd_L1 (mat n R) (i : Int) = vec n (R i) := by
  unfold rd_L1; rw [Int.toNat_natCast, mat_get n R i h]
/-- A book by its table. -/
structure BkR (c : List Int) (R : Nat → Nat → Int) : Prop where
  n1 : 1 ≤ c.length
  n4 : c.length ≤ 4
  ent : ∀ i j, i < c.length → j < c.length → 0 ≤ R i j ∧ R i j ≤ 9
  hz : ∀ i, i < c.length → R i i = 0
  hc : ∀ i, i < c.length → 0 ≤ c.getD i 0 ∧ c.getD i 0 ≤ 20
theorem BkR.ok {c : List Int} {R : Nat → Nat → Int} (h : BkR c R) : okB c (mat c.length R) = true := by
  refine (okB_iff c _).2 ⟨⟨h.n1, h.n4⟩, mat_len _ _, fun i hi => ⟨h.hc i hi, by rw [mat_get _ _ _ hi, vec_len], by rw [mat_get _ _ _ hi, vec_get _ _ _ hi, h.hz i hi], fun x hx => ?_⟩⟩
  rw [mat_get _ _ _ hi] at hx
  obtain ⟨j, hj, rfl⟩ := List.mem_map.1 hx
  exact h.ent i j hi (List.mem_range.1 hj)
theorem BkR.bk {c : List Int} {R : Nat → Nat → Int} (h : BkR c R) : Bk c (mat c.length R) := Bk.of h.ok
theorem vec_of (xs : List Int) (n : Nat) (h : xs.length = n) : xs = vec n (fun j => xs.getD j 0) := by
  unfold vec
  refine List.ext_getElem (by simp [h]) fun j h1 h2 => ?_
  rw [List.getElem_map, List.getElem_range, List.getD_eq_getElem?_getD, List.getElem?_eq_getElem h1]; rfl
theorem mat_of (d : List (List Int)) (n : Nat) (h : d.length = n) (hr : ∀ i, i < n → (d.getD i []).length = n) : d = mat n (fun i j => (d.getD i []).getD j 0) := by
  unfold mat
  refine List.ext_getElem (by simp [h]) fun i h1 h2 => ?_
  rw [List.getElem_map, List.getElem_range, ← vec_of _ _ (hr i (by omega)), List.getD_eq_getElem?_getD, List.getElem?_eq_getElem h1]; rfl
theorem Bk.tab {c : List Int} {d : List (List Int)} (B : Bk c d) : ∃ R, d = mat c.length R ∧ BkR c R :=
  ⟨fun i j => (d.getD i []).getD j 0, mat_of d c.length B.hd B.hr, B.n1, B.n4, fun i j hi hj => B.ent hi hj, B.hz, B.hc⟩

theorem copyI_l0 (d : List (List Int)) (hd : d.length ≤ 1000) (hr : ∀ i, (d.getD i []).length ≤ 1000) (c : List Int) : ∀ (m i : Nat), i + m = d.length → Ev (fun k => impl_copyBook.l0 k d (d.length : Int) (i : Int) c (d.take i)) (c, d)
  | 0, i, hi => by
    rw [List.take_of_length_le (by omega)]
    exact Ev.step (fun k => by rw [impl_copyBook.l0]) (evNeg (by omega) (Ev.now _))
  | m + 1, i, hi => by
    have h1 := hr i
    have h2 : (d.take i).length ≤ 1000 := by rw [List.length_take]; omega
    refine Ev.step (fun k => by rw [impl_copyBook.l0]) (evPos (by omega) ?_)
    simp only [Option.bind_some]
    rw [rdR_nat, List.nil_append, w64 (show i < d.length by omega) (by omega)]
    refine evPos (by omega) (evPos (by omega) (evPos (by simp only [List.length_nil]; omega) (evPos (by omega) ?_)))
    have := copyI_l0 d hd hr c m (i + 1) (by omega)
    rw [take_snoc d [] i (by omega)] at this
    exact this
theorem copyImpl_f (c : List Int) (d : List (List Int)) (hc : c.length ≤ 1000) (hd : d.length ≤ 1000) (hr : ∀ i, (d.getD i []).length ≤ 1000) : Ev (fun k => impl_copyBook.f k c d) (c, d) := by
  have h := copyI_l0 d hd hr c d.length 0 (by omega)
  unfold impl_copyBook.f
  simp only [Option.bind_some, List.nil_append]
  exact evPos (by simp only [List.length_nil]; omega) h
theorem copy_l0 (d : List (List Int)) (hd : d.length ≤ 1000) (hr : ∀ i, (d.getD i []).length ≤ 1000) (c0 c : List Int) : ∀ (m i : Nat), i + m = d.length → Ev (fun k => spec_l2Copy.l0 k (i : Int) c0 d c (d.take i)) (c, d)
  | 0, i, hi => by
    rw [List.take_of_length_le (by omega)]
    exact Ev.step (fun k => by rw [spec_l2Copy.l0]) (evNeg (by omega) (Ev.now _))
  | m + 1, i, hi => by
    have h1 := hr i
    have h2 : (d.take i).length ≤ 1000 := by rw [List.length_take]; omega
    refine Ev.step (fun k => by rw [spec_l2Copy.l0]) (evPos (by omega) ?_)
    simp only [Option.bind_some]
    rw [rdR_nat, List.nil_append, w64 (show i < d.length by omega) (by omega)]
    refine evPos (by omega) (evPos (by simp only [List.length_nil]; omega) (evPos (by omega) ?_))
    have := copy_l0 d hd hr c0 c m (i + 1) (by omega)
    rw [take_snoc d [] i (by omega)] at this
    exact this
theorem copySpec_f (c : List Int) (d : List (List Int)) (hc : c.length ≤ 1000) (hd : d.length ≤ 1000) (hr : ∀ i, (d.getD i []).length ≤ 1000) : Ev (fun k => spec_l2Copy.f k c d) (c, d) := by
  have h := copy_l0 d hd hr c c d.length 0 (by omega)
  unfold spec_l2Copy.f
  simp only [Option.bind_some, List.nil_append]
  exact evPos (by simp only [List.length_nil]; omega) h


theorem mn_comm (a b : Int) : mn a b = mn b a := by unfold mn; split <;> split <;> omega
theorem mn_in {a b : Int} (ha : 0 ≤ a ∧ a ≤ 9) (hb : 0 ≤ b ∧ b ≤ 9) : 0 ≤ mn a b ∧ mn a b ≤ 9 ∧ mn a b ≤ a ∧ mn a b ≤ b := by unfold mn; split <;> omega
/-- What is left of a debt. -/
def net2 (R : Nat → Nat → Int) (i k : Nat) : Int := R i k - mn (R i k) (R k i)
theorem upd2_at (T : Nat → Nat → Int) (i k : Nat) (y : Int) (a b : Nat) : upd2 T i k y a b = if a = i ∧ b = k then y else T a b := by
  unfold upd2 upd
  by_cases h : a = i
  · subst h
    by_cases h2 : b = k
    · subst h2; simp
    · simp [h2]
  · simp [h]
/-- The program's table: rows ahead of i are done, and of row i what stands ahead of k. -/
def rowsT (R : Nat → Nat → Int) (i k : Nat) : Nat → Nat → Int := fun a b => if a < i ∨ (a = i ∧ b < k) then net2 R a b else R a b
theorem rowsT_next (R : Nat → Nat → Int) (i k : Nat) : upd2 (rowsT R i k) i k (net2 R i k) = rowsT R i (k + 1) := by
  funext a b
  rw [upd2_at]
  unfold rowsT
  by_cases h : a = i ∧ b = k
  · obtain ⟨rfl, rfl⟩ := h
    rw [if_pos ⟨rfl, rfl⟩, if_pos (.inr ⟨rfl, by omega⟩)]
  · rw [if_neg h]
    by_cases h1 : a < i ∨ (a = i ∧ b < k)
    · rw [if_pos h1, if_pos (by omega)]
    · rw [if_neg h1, if_neg (by omega)]
theorem mat_congr {n : Nat} {T U : Nat → Nat → Int} (h : ∀ a b, a < n → b < n → T a b = U a b) : mat n T = mat n U := by
  unfold mat
  refine rmap_congr fun a ha => ?_
  unfold vec
  exact rmap_congr fun b hb => h a b ha hb
theorem rowsT_row (R : Nat → Nat → Int) (n i : Nat) : mat n (rowsT R i n) = mat n (rowsT R (i + 1) 0) := mat_congr fun a b ha hb => by
  unfold rowsT
  by_cases h : a < i ∨ (a = i ∧ b < n)
  · rw [if_pos h, if_pos (by omega)]
  · rw [if_neg h, if_neg (by omega)]
theorem nettedImpl_l1 {c : List Int} {R : Nat → Nat → Int} (B : BkR c R) {i : Nat} (hi : i < c.length) {r : List Int × List (List Int)} {b : Int}
    (go : Ev (fun k => impl_netted.l0 k (mat c.length R) b (wrap64 ((i : Int) + 1)) c (mat c.length R) c (mat c.length (rowsT R i c.length))) r) :
    ∀ (m j : Nat), j + m = c.length → Ev (fun k => impl_netted.l1 k (i : Int) (mat c.length R) b (i : Int) (vec c.length (R i)) ((vec c.length (R i)).length : Int) (j : Int) c (mat c.length R) c (mat c.length (rowsT R i j))) r
  | 0, j, hj => by
    obtain rfl : j = c.length := by omega
    have l3 := vec_len c.length (R i)
    exact Ev.step (fun k => by rw [impl_netted.l1]) (evNeg (by omega) go)
  | m + 1, j, hj => by
    have ih := nettedImpl_l1 B hi go m (j + 1) (by omega)
    have hjl : j < c.length := by omega
    have n4 := B.n4
    rw [← w64 hjl (by omega)] at ih
    have l1 := mat_len c.length R
    have l2 := mat_len c.length (rowsT R i j)
    have l3 := vec_len c.length (R i)
    have l4 := vec_len c.length (R j)
    have l5 := vec_len c.length (rowsT R i j i)
    have e1 := B.ent i j hi hjl
    have e2 := B.ent j i hjl hi
    have e3 := mn_in e1 e2
    have hw : wrap64 (R i j - mn (R i j) (R j i)) = net2 R i j := by unfold wrap64 net2; omega
    refine Ev.step (fun k => by rw [impl_netted.l1]) ?_
    rw [rd_mat' _ _ _ hjl, rd_mat' _ _ _ hi, rd_vec' _ _ _ hjl, rd_vec' _ _ _ hi, hw, Int.toNat_natCast, Int.toNat_natCast, vec_set, mat_set, rowsT_next]
    exact evPos (by omega) (evPos (by omega) (evPos (by omega) (evPos (by omega) (evPos (by omega) (evPos (by omega) (evPos (by omega) (evPos (by omega) ih)))))))
theorem nettedImpl_l0 {c : List Int} {R : Nat → Nat → Int} (B : BkR c R) : ∀ (m i : Nat), i + m = c.length → Ev (fun k => impl_netted.l0 k (mat c.length R) ((mat c.length R).length : Int) (i : Int) c (mat c.length R) c (mat c.length (rowsT R i 0))) (c, mat c.length (net2 R))
  | 0, i, hi => by
    obtain rfl : i = c.length := by omega
    have l1 := mat_len c.length R
    have e : mat c.length (rowsT R c.length 0) = mat c.length (net2 R) := mat_congr fun a b ha hb => by unfold rowsT; rw [if_pos (.inl ha)]
    rw [e]
    exact Ev.step (fun k => by rw [impl_netted.l0]) (evNeg (by omega) (Ev.now _))
  | m + 1, i, hi => by
    have ih := nettedImpl_l0 B m (i + 1) (by omega)
    have hil : i < c.length := by omega
    have n4 := B.n4
    have l1 := mat_len c.length R
    rw [← w64 hil (by omega), ← rowsT_row] at ih
    have h1 := nettedImpl_l1 B hil ih c.length 0 (by omega)
    refine Ev.step (fun k => by rw [impl_netted.l0]) ?_
    rw [rd_mat' _ _ _ hil]
    exact evPos (by omega) (evPos (by omega) (evPos (by omega) h1))
theorem mat_rows (n : Nat) (R : Nat → Nat → Int) (i : Nat) : ((mat n R).getD i []).length ≤ n := by
  by_cases hi : i < n
  · rw [mat_get _ _ _ hi, vec_len]; omega
  · rw [List.getD_eq_getElem?_getD, List.getElem?_eq_none (by rw [mat_len]; omega)]; simp
theorem nettedImpl_f {c : List Int} {R : Nat → Nat → Int} (B : BkR c R) : Ev (fun k => impl_netted.f k c (mat c.length R)) (c, mat c.length (net2 R)) := by
  have n4 := B.n4
  have h0 := nettedImpl_l0 B c.length 0 (by omega)
  have e : rowsT R 0 0 = R := by funext a b; unfold rowsT; rw [if_neg (by omega)]
  rw [e] at h0
  have hc := copyImpl_f c (mat c.length R) (by omega) (by rw [mat_len]; omega) (fun i => by have := mat_rows c.length R i; omega)
  exact Ev.congr (fun k => by unfold impl_netted.f; rfl) (Ev.bind hc h0)
/-- The reference's table: both of each two banks ahead of i are done, and of bank i those ahead of j. -/
def pairT (R : Nat → Nat → Int) (i j : Nat) : Nat → Nat → Int := fun a b => if (a < i ∧ b < i) ∨ (a = i ∧ b < j) ∨ (b = i ∧ a < j) then net2 R a b else R a b
theorem pairT_next (R : Nat → Nat → Int) {i j : Nat} (hij : j < i) : upd2 (upd2 (pairT R i j) i j (net2 R i j)) j i (net2 R j i) = pairT R i (j + 1) := by
  funext a b
  rw [upd2_at, upd2_at]
  unfold pairT
  by_cases h : a = j ∧ b = i
  · obtain ⟨rfl, rfl⟩ := h
    rw [if_pos ⟨rfl, rfl⟩, if_pos (.inr (.inr ⟨rfl, by omega⟩))]
  · rw [if_neg h]
    by_cases h2 : a = i ∧ b = j
    · obtain ⟨rfl, rfl⟩ := h2
      rw [if_pos ⟨rfl, rfl⟩, if_pos (.inr (.inl ⟨rfl, by omega⟩))]
    · rw [if_neg h2]
      by_cases h1 : (a < i ∧ b < i) ∨ (a = i ∧ b < j) ∨ (b = i ∧ a < j)
      · rw [if_pos h1, if_pos (by omega)]
      · rw [if_neg h1, if_neg (by omega)]
theorem pairT_row {c : List Int} {R : Nat → Nat → Int} (B : BkR c R) {i : Nat} (hi : i < c.length) : mat c.length (pairT R i i) = mat c.length (pairT R (i + 1) 0) := mat_congr fun a b ha hb => by
  unfold pairT
  by_cases h : (a < i ∧ b < i) ∨ (a = i ∧ b < i) ∨ (b = i ∧ a < i)
  · rw [if_pos h, if_pos (by omega)]
  · rw [if_neg h]
    by_cases h2 : a = i ∧ b = i
    · obtain ⟨rfl, rfl⟩ := h2
      rw [if_pos (by omega)]
      unfold net2
      rw [B.hz _ hi]
      unfold mn; simp
    · rw [if_neg (by omega)]
theorem nettedSpec_l1 {c : List Int} {R : Nat → Nat → Int} (B : BkR c R) {i : Nat} (hi : i < c.length) {r : List Int × List (List Int)}
    (go : Ev (fun k => spec_Netted.l0 k (wrap64 ((i : Int) + 1)) c (mat c.length R) c (mat c.length (pairT R i i))) r) :
    ∀ (m j : Nat), j + m = i → Ev (fun k => spec_Netted.l1 k (i : Int) (j : Int) c (mat c.length R) c (mat c.length (pairT R i j))) r
  | 0, j, hj => by
    obtain rfl : j = i := by omega
    exact Ev.step (fun k => by rw [spec_Netted.l1]) (evNeg (by omega) go)
  | m + 1, j, hj => by
    have ih := nettedSpec_l1 B hi go m (j + 1) (by omega)
    have hij : j < i := by omega
    have hjl : j < c.length := by omega
    have n4 := B.n4
    rw [← w64 hjl (by omega)] at ih
    have l1 := mat_len c.length R
    have l2 := mat_len c.length (pairT R i j)
    have l3 := vec_len c.length (R i)
    have l4 := vec_len c.length (R j)
    have l5 := vec_len c.length (pairT R i j i)
    have e1 := B.ent i j hi hjl
    have e2 := B.ent j i hjl hi
    have e3 := mn_in e1 e2
    have hw : wrap64 (R i j - mn (R i j) (R j i)) = net2 R i j := by unfold wrap64 net2; omega
    have hw2 : wrap64 (R j i - mn (R i j) (R j i)) = net2 R j i := by unfold wrap64 net2; rw [mn_comm (R j i)]; omega
    have l6 := mat_len c.length (upd2 (pairT R i j) i j (net2 R i j))
    have l7 := vec_len c.length (upd2 (pairT R i j) i j (net2 R i j) j)
    refine Ev.step (fun k => by rw [spec_Netted.l1]) ?_
    simp only [Option.bind_some]
    rw [rd_mat' _ _ _ hjl, rd_mat' _ _ _ hi, rd_mat' _ _ _ hi, rd_vec' _ _ _ hjl, rd_vec' _ _ _ hi, hw, hw2, Int.toNat_natCast, Int.toNat_natCast, vec_set, mat_set, rd_mat' _ _ _ hjl, vec_set, mat_set, pairT_next R hij]
    exact evPos (by omega) (evPos (by omega) (evPos (by omega) (evPos (by omega) (evPos (by omega) (evPos (by omega) (evPos (by omega) (evPos (by omega) (evPos (by omega) (evPos (by omega) (evPos (by omega) ih))))))))))
theorem nettedSpec_l0 {c : List Int} {R : Nat → Nat → Int} (B : BkR c R) : ∀ (m i : Nat), i + m = c.length → Ev (fun k => spec_Netted.l0 k (i : Int) c (mat c.length R) c (mat c.length (pairT R i 0))) (c, mat c.length (net2 R))
  | 0, i, hi => by
    obtain rfl : i = c.length := by omega
    have e : mat c.length (pairT R c.length 0) = mat c.length (net2 R) := mat_congr fun a b ha hb => by unfold pairT; rw [if_pos (.inl ⟨ha, hb⟩)]
    rw [e]
    exact Ev.step (fun k => by rw [spec_Netted.l0]) (evNeg (by omega) (Ev.now _))
  | m + 1, i, hi => by
    have ih := nettedSpec_l0 B m (i + 1) (by omega)
    have hil : i < c.length := by omega
    have n4 := B.n4
    rw [← w64 hil (by omega), ← pairT_row B hil] at ih
    have h1 := nettedSpec_l1 B hil ih i 0 (by omega)
    refine Ev.step (fun k => by rw [spec_Netted.l0]) ?_
    exact evPos (by omega) h1
theorem nettedSpec_f {c : List Int} {R : Nat → Nat → Int} (B : BkR c R) (sb : Ev (fun k => spec_BookOk.f k c (mat c.length R)) true) : Ev (fun k => spec_Netted.f k c (mat c.length R)) (c, mat c.length (net2 R)) := by
  have n4 := B.n4
  have h0 := nettedSpec_l0 B c.length 0 (by omega)
  have e : pairT R 0 0 = R := by funext a b; unfold pairT; rw [if_neg (by omega)]
  rw [e] at h0
  have hc := copySpec_f c (mat c.length R) (by omega) (by rw [mat_len]; omega) (fun i => by have := mat_rows c.length R i; omega)
  exact Ev.congr (fun k => by unfold spec_Netted.f; rfl) (Ev.bind sb (evPos rfl (Ev.bind hc h0)))
theorem netted_f {l0 : List Int} {l1 : List (List Int)} (ib : Ev (fun k => impl_isBook.f k l0 l1) (okB l0 l1)) (sb : Ev (fun k => spec_BookOk.f k l0 l1) (okB l0 l1)) :
    ∃ V0 V1, Ev (fun k => spec_Netted.f k l0 l1) (V0, V1) ∧ Ev (fun k => impl_Netted.f k l0 l1) (V0, V1) ∧ V0.length ≤ 4 ∧ V1.length ≤ 4 ∧ ∀ i, (V1.getD i []).length ≤ 4 := by
  by_cases hb : okB l0 l1 = true
  · obtain ⟨R, rfl, B⟩ := (Bk.of hb).tab
    have n4 := B.n4
    rw [hb] at ib sb
    exact ⟨_, _, nettedSpec_f B sb, Ev.congr (fun k => by unfold impl_Netted.f; rfl) (Ev.bind ib (evPos rfl (Ev.bind (nettedImpl_f B) (Ev.now _)))), n4, by rw [mat_len]; exact n4, fun i => Nat.le_trans (mat_rows _ _ i) n4⟩
  · have hf : okB l0 l1 = false := by simpa using hb
    rw [hf] at ib sb
    exact ⟨[], [], Ev.congr (fun k => by unfold spec_Netted.f; rfl) (Ev.bind sb (evNeg (show ¬ (false = true) by decide) (Ev.now _))), Ev.congr (fun k => by unfold impl_Netted.f; rfl) (Ev.bind ib (evNeg (show ¬ (false = true) by decide) (Ev.now _))), by simp, by simp, by simp⟩
theorem FnExactNetted (l0 : List Int) (l1 : List (List Int)) (h0 : l0.length ≤ maxLen) (h1 : l1.length ≤ maxLen) (w0 : ∀ x ∈ l0, (Lit.int .i64 x).wf = true) (w1 : ∀ r ∈ l1, r.length ≤ maxLen ∧ ∀ x ∈ r, (Lit.int .i64 x).wf = true) : ∃ k, laws_FnExactNetted.ok k l0 l1 := by
  unfold maxLen at h0 h1
  obtain ⟨s, ⟨k1, hs⟩, hsz⟩ := szBook_f l0 l1 h0 h1 (getD_bound fun r hr => by have := (w1 r hr).1; unfold maxLen at this; exact this)
  by_cases hn : s < 0
  · exact ⟨k1, s, hs k1 (Nat.le_refl _), .inl hn⟩
  obtain ⟨a, b, c⟩ := hsz hn
  have hr : ∀ i, (l1.getD i []).length ≤ 9223372036854775807 := fun i => by have := c i; omega
  obtain ⟨k2, tb⟩ := toBook_f l0 l1 a b c
  obtain ⟨k3, eb⟩ := eqBook_f l0 l1 h0 h1 hr
  obtain ⟨m1, ⟨k4, mb⟩, hm1⟩ := markBook_f l0 l1 a b c
  have ib := isBook_f l0 l1 h0 hr
  have sb := specBookOk_f l0 l1 h0 hr
  obtain ⟨V0, V1, sp, im, g0, g1, g2⟩ := netted_f ib sb
  have gm := mem_bound g2
  have gt := totSS_le V1 gm
  obtain ⟨k5, sp⟩ := sp
  obtain ⟨k6, im⟩ := im
  obtain ⟨k7, eq⟩ := eqBook_f V0 V1 (by omega) (by omega) (fun i => by have := g2 i; omega)
  obtain ⟨k8, mg⟩ := markIntS_f V0 1 (by omega) (by omega)
  obtain ⟨k9, mg2⟩ := markSS_f V1 (1 + (V0.length : Int)) (by omega) (fun r hr => by have := gm r hr; omega) (by omega) (by omega)
  obtain ⟨k10, hg⟩ := heldBook_f V0 V1 (by omega) (by omega) (fun r hr => by have := gm r hr; omega)
  refine ⟨k1 + k2 + k3 + k4 + k5 + k6 + k7 + k8 + k9 + k10, s, hs _ (by omega), .inr ⟨hn, tb _ (by omega), eb _ (by omega), m1, 1 + (V0.length : Int), 1 + (V0.length : Int) + (totSS V1 : Int), V0, seqF 1 V0.length, V1, seqSS (1 + (V0.length : Int)) V1, mb _ (by omega), hm1, sp _ (by omega), im _ (by omega), eq _ (by omega), mg _ (by omega), mg2 _ (by omega), hg _ (by omega), by omega⟩⟩

end Go.Proofs.Ytobdgfapjcepkaa.Pure
