/- LeastBook of the program and of the reference return the same debts, the book stays as it is, and the result shares no memory with it or with another result, for every book; no condition. -/
import Derived.Test.YtobdgfapjcepkaaOwnFnExactLeastBook
namespace Go.Proofs.Ytobdgfapjcepkaa.Pure
open Go.RowKit Go.Proofs.Ytobdgfapjcepkaa.QFnExactLeastBook Go.Proofs.YtobdgfapjcepkaaW.PrintWords Go.Proofs.YtobdgfapjcepkaaW.PrintLast Go.Proofs.YtobdgfapjcepkaaW.PrintMore
set_option linter.unusedVariables false
set_option linter.unusedSimpArgs false

theorem evPos {α : Type} {c : Prop} [Decidable c] {f g : Nat → Option α} {r : α} (h : c) (e : Ev f r) : Ev (fun k => if c then f k else g k) r := by
  simp only [if_pos h]; exact e
theorem evNeg {α : Type} {c : Prop} [Decidable c] {f g : Nat → Option α} {r : α} (h : ¬ c) (e : Ev g r) : Ev (fun k => if c then f k else g k) r := by
  simp only [if_neg h]; exact e
theorem evIs {α : Type} {g : Nat → Option α} {r r' : α} (e : Ev g r) (h : r = r') : Ev g r' := h ▸ e
theorem evIte {α : Type} {c : Prop} [Decidable c] {f g : Nat → Option α} {r : α} (e1 : c → Ev f r) (e2 : ¬ c → Ev g r) : Ev (fun k => if c then f k else g k) r := by
  by_cases h : c
  · exact evPos h (e1 h)
  · exact evNeg h (e2 h)
/-- What a number does, it does in one step more. -/
theorem w64 {j n : Nat} (h : j < n) (hn : n ≤ 9223372036854775807) : wrap64 ((j : Int) + 1) = ((j + 1 : Nat) : Int) := by unfold wrap64; omega
theorem rd_nat (xs : List Int) (j : Nat) : rd xs (j : Int) = xs.getD j 0 := by unfold rd; rw [Int.toNat_natCast]
theorem drop_step {α : Type} (xs : List α) (j : Nat) (z : α) (h : j < xs.length) : xs.drop j = xs.getD j z :: xs.drop (j + 1) := by
  rw [List.drop_eq_getElem_cons h, List.getD_eq_getElem?_getD, List.getElem?_eq_getElem h]; rfl
theorem drop_end {α : Type} (xs : List α) (j : Nat) (h : ¬ j < xs.length) : xs.drop j = [] := List.drop_eq_nil_of_le (by omega)
def debtOk (x : Int) : Bool := decide (0 ≤ x ∧ x ≤ 9)
def rowOk (c : List Int) (d : List (List Int)) (i : Nat) : Bool :=
  decide (0 ≤ c.getD i 0 ∧ c.getD i 0 ≤ 20) && ((d.getD i []).length == c.length) && ((d.getD i []).getD i 0 == 0) && (d.getD i []).all debtOk
/-- A book: what BookOk asks. -/
def okB (c : List Int) (d : List (List Int)) : Bool := decide (1 ≤ c.length ∧ c.length ≤ 4) && (d.length == c.length) && (List.range' 0 c.length).all (rowOk c d)
theorem range_step (i n : Nat) (h : i < n) : List.range' i (n - i) = i :: List.range' (i + 1) (n - (i + 1)) := by
  have : n - i = (n - (i + 1)) + 1 := by omega
  rw [this, List.range'_succ]
theorem range_end (i n : Nat) (h : ¬ i < n) : List.range' i (n - i) = [] := by
  have : n - i = 0 := by omega
  rw [this]; rfl
theorem rowOk_of {c : List Int} {d : List (List Int)} {i : Nat} (h1 : 0 ≤ c.getD i 0 ∧ c.getD i 0 ≤ 20) (h2 : (d.getD i []).length = c.length) (h3 : (d.getD i []).getD i 0 = 0) : rowOk c d i = (d.getD i []).all debtOk := by
  unfold rowOk; rw [decide_eq_true h1, beq_iff_eq.2 h2, beq_iff_eq.2 h3]; rfl
theorem rowOk_f1 {c : List Int} {d : List (List Int)} {i : Nat} (h1 : ¬ (0 ≤ c.getD i 0 ∧ c.getD i 0 ≤ 20)) : rowOk c d i = false := by
  unfold rowOk; rw [decide_eq_false h1]; rfl
theorem rowOk_f2 {c : List Int} {d : List (List Int)} {i : Nat} (h2 : ¬ (d.getD i []).length = c.length) : rowOk c d i = false := by
  unfold rowOk; rw [beq_eq_false_iff_ne.2 h2, Bool.and_false]; rfl
theorem rowOk_f3 {c : List Int} {d : List (List Int)} {i : Nat} (h3 : ¬ (d.getD i []).getD i 0 = 0) : rowOk c d i = false := by
  unfold rowOk; rw [beq_eq_false_iff_ne.2 h3, Bool.and_false]; rfl
theorem okB_of {c : List Int} {d : List (List Int)} (h1 : 1 ≤ c.length ∧ c.length ≤ 4) (h2 : d.length = c.length) : okB c d = (List.range' 0 c.length).all (rowOk c d) := by
  unfold okB; rw [decide_eq_true h1, beq_iff_eq.2 h2]; rfl
theorem okB_f1 {c : List Int} {d : List (List Int)} (h1 : ¬ (1 ≤ c.length ∧ c.length ≤ 4)) : okB c d = false := by
  unfold okB; rw [decide_eq_false h1]; rfl
theorem okB_f2 {c : List Int} {d : List (List Int)} (h2 : ¬ d.length = c.length) : okB c d = false := by
  unfold okB; rw [beq_eq_false_iff_ne.2 h2, Bool.and_false]; rfl
/-- What a book is like, row by row. -/
theorem okB_iff (c : List Int) (d : List (List Int)) : okB c d = true ↔ (1 ≤ c.length ∧ c.length ≤ 4) ∧ d.length = c.length ∧ ∀ i, i < c.length → (0 ≤ c.getD i 0 ∧ c.getD i 0 ≤ 20) ∧ (d.getD i []).length = c.length ∧ (d.getD i []).getD i 0 = 0 ∧ ∀ x ∈ d.getD i [], 0 ≤ x ∧ x ≤ 9 := by
  unfold okB
  rw [Bool.and_eq_true, Bool.and_eq_true, decide_eq_true_iff, beq_iff_eq, List.all_eq_true, and_assoc]
  refine and_congr_right fun _ => and_congr_right fun _ => ⟨fun h i hi => ?_, fun h i hi => ?_⟩
  · have h2 := h i (by rw [List.mem_range']; exact ⟨i, hi, by omega⟩)
    unfold rowOk at h2
    rw [Bool.and_eq_true, Bool.and_eq_true, Bool.and_eq_true, decide_eq_true_iff, beq_iff_eq, beq_iff_eq, List.all_eq_true] at h2
    exact ⟨h2.1.1.1, h2.1.1.2, h2.1.2, fun x hx => of_decide_eq_true (h2.2 x hx)⟩
  · obtain ⟨j, hj, rfl⟩ := List.mem_range'.1 hi
    have h2 := h (0 + 1 * j) (by omega)
    unfold rowOk
    rw [Bool.and_eq_true, Bool.and_eq_true, Bool.and_eq_true, decide_eq_true_iff, beq_iff_eq, beq_iff_eq, List.all_eq_true]
    exact ⟨⟨⟨h2.1, h2.2.1⟩, h2.2.2.1⟩, fun x hx => decide_eq_true (h2.2.2.2 x hx)⟩

theorem rdR_nat (xs : List (List Int)) (j : Nat) : rd_L1 xs (j : Int) = xs.getD j [] := by unfold rd_L1; rw [Int.toNat_natCast]

/-- The sum of numbers. -/
def sm : List Int → Int
  | [] => 0
  | x :: r => x + sm r
theorem sm_append (a b : List Int) : sm (a ++ b) = sm a + sm b := by
  induction a with
  | nil => simp [sm]
  | cons x r ih => simp only [List.cons_append, sm, ih]; omega
theorem take_snoc {α : Type} (xs : List α) (z : α) (j : Nat) (h : j < xs.length) : xs.take (j + 1) = xs.take j ++ [xs.getD j z] := by
  rw [List.take_add_one, List.getElem?_eq_getElem h, List.getD_eq_getElem?_getD, List.getElem?_eq_getElem h]; rfl
theorem sm_take (xs : List Int) (j : Nat) (h : j < xs.length) : sm (xs.take (j + 1)) = sm (xs.take j) + xs.getD j 0 := by
  rw [take_snoc xs 0 j h, sm_append]; simp [sm]
theorem sm_bound (xs : List Int) (b : Int) (h : ∀ x ∈ xs, 0 ≤ x ∧ x ≤ b) : 0 ≤ sm xs ∧ sm xs ≤ b * xs.length := by
  induction xs with
  | nil => simp [sm]
  | cons x r ih =>
    have h1 := h x (by simp)
    have h2 := ih fun y hy => h y (by simp [hy])
    simp only [sm, List.length_cons]
    have : b * ((r.length + 1 : Nat) : Int) = b * (r.length : Int) + b := by grind
    omega
theorem getD_mem {xs : List Int} {j : Nat} (h : j < xs.length) : xs.getD j 0 ∈ xs := by
  rw [List.getD_eq_getElem?_getD, List.getElem?_eq_getElem h]; exact List.getElem_mem h
theorem mid_set {α : Type} (A B : List α) (x y : α) (i : Nat) (h : A.length = i) : (A ++ x :: B).set i y = A ++ y :: B := by
  rw [List.set_append_right _ _ (by omega), h, Nat.sub_self]; rfl
theorem mid_get (A B : List Int) (x : Int) (i : Nat) (h : A.length = i) : (A ++ x :: B).getD i 0 = x := by
  rw [List.getD_eq_getElem?_getD, List.getElem?_append_right (by omega), h, Nat.sub_self]; rfl
theorem rmap_set {α : Type} (f : Nat → α) (n i : Nat) (y : α) : ((List.range n).map f).set i y = (List.range n).map fun j => if j = i then y else f j := by
  refine List.ext_getElem (by simp) fun j h1 h2 => ?_
  simp only [List.getElem_set, List.getElem_map, List.getElem_range]
  by_cases e : i = j
  · simp [e]
  · rw [if_neg e, if_neg (fun h => e h.symm)]
theorem rmap_get (f : Nat → Int) (n i : Nat) (h : i < n) : ((List.range n).map f).getD i 0 = f i := by
  rw [List.getD_eq_getElem?_getD, List.getElem?_map, List.getElem?_range h]; rfl
theorem rmap_congr {α : Type} {f g : Nat → α} {n : Nat} (h : ∀ j, j < n → f j = g j) : (List.range n).map f = (List.range n).map g :=
  List.map_congr_left fun j hj => h j (List.mem_range.1 hj)
theorem rmap_succ {α : Type} (f : Nat → α) (n : Nat) : (List.range (n + 1)).map f = (List.range n).map f ++ [f n] := by
  rw [List.range_succ, List.map_append]; rfl
/-- What a bank owes in all; what it is owed, by the first i banks. -/
def owesI (d : List (List Int)) (i : Nat) : Int := sm (d.getD i [])
def owedI (d : List (List Int)) (i j : Nat) : Int := sm ((d.take i).map fun r => r.getD j 0)
def owesV (d : List (List Int)) (n : Nat) : List Int := (List.range n).map (owesI d)
def owedV (d : List (List Int)) (n : Nat) : List Int := (List.range n).map (owedI d n)
def netsV (d : List (List Int)) (n : Nat) : List Int := (List.range n).map fun i => owedI d n i - owesI d i
theorem owedI_succ (d : List (List Int)) (i j : Nat) (h : i < d.length) : owedI d (i + 1) j = owedI d i j + (d.getD i []).getD j 0 := by
  unfold owedI
  rw [take_snoc d [] i h, List.map_append, sm_append]
  simp [sm]
/-- The facts of a book, as they are used. -/
structure Bk (c : List Int) (d : List (List Int)) : Prop where
  n1 : 1 ≤ c.length
  n4 : c.length ≤ 4
  hd : d.length = c.length
  hr : ∀ i, i < c.length → (d.getD i []).length = c.length
  he : ∀ i, i < c.length → ∀ x ∈ d.getD i [], 0 ≤ x ∧ x ≤ 9
  hz : ∀ i, i < c.length → (d.getD i []).getD i 0 = 0
  hc : ∀ i, i < c.length → 0 ≤ c.getD i 0 ∧ c.getD i 0 ≤ 20
theorem Bk.of {c : List Int} {d : List (List Int)} (h : okB c d = true) : Bk c d := by
  obtain ⟨⟨a1, a2⟩, a3, a4⟩ := (okB_iff c d).1 h
  exact ⟨a1, a2, a3, fun i hi => (a4 i hi).2.1, fun i hi => (a4 i hi).2.2.2, fun i hi => (a4 i hi).2.2.1, fun i hi => (a4 i hi).1⟩
theorem Bk.ent {c : List Int} {d : List (List Int)} (h : Bk c d) {i j : Nat} (hi : i < c.length) (hj : j < c.length) : 0 ≤ (d.getD i []).getD j 0 ∧ (d.getD i []).getD j 0 ≤ 9 :=
  h.he i hi _ (getD_mem (by rw [h.hr i hi]; exact hj))
theorem Bk.row_take {c : List Int} {d : List (List Int)} (h : Bk c d) {i : Nat} (hi : i < c.length) (j : Nat) : 0 ≤ sm ((d.getD i []).take j) ∧ sm ((d.getD i []).take j) ≤ 36 := by
  have h1 := sm_bound ((d.getD i []).take j) 9 fun x hx => h.he i hi x (List.mem_of_mem_take hx)
  have h2 : ((d.getD i []).take j).length ≤ 4 := by have := h.hr i hi; have := h.n4; rw [List.length_take]; omega
  omega
theorem Bk.owes_bound {c : List Int} {d : List (List Int)} (h : Bk c d) {i : Nat} (hi : i < c.length) : 0 ≤ owesI d i ∧ owesI d i ≤ 36 := by
  have := h.row_take hi (d.getD i []).length
  rw [List.take_length] at this; exact this
theorem Bk.owed_bound {c : List Int} {d : List (List Int)} (h : Bk c d) {j : Nat} (hj : j < c.length) : ∀ i, i ≤ c.length → 0 ≤ owedI d i j ∧ owedI d i j ≤ 9 * i
  | 0, _ => by simp [owedI, sm]
  | i + 1, hi => by
    have h1 := h.owed_bound hj i (by omega)
    have h2 := h.ent (i := i) (by omega) hj
    rw [owedI_succ d i j (by rw [h.hd]; omega)]
    omega

theorem sm_rmap_add (f g : Nat → Int) : ∀ n, sm ((List.range n).map fun j => f j + g j) = sm ((List.range n).map f) + sm ((List.range n).map g)
  | 0 => by simp [sm]
  | n + 1 => by rw [rmap_succ, rmap_succ, rmap_succ, sm_append, sm_append, sm_append, sm_rmap_add f g n]; simp only [sm]; omega
theorem sm_rmap_sub (f g : Nat → Int) : ∀ n, sm ((List.range n).map fun j => f j - g j) = sm ((List.range n).map f) - sm ((List.range n).map g)
  | 0 => by simp [sm]
  | n + 1 => by rw [rmap_succ, rmap_succ, rmap_succ, sm_append, sm_append, sm_append, sm_rmap_sub f g n]; simp only [sm]; omega
theorem sm_getD (xs : List Int) : ∀ n, n ≤ xs.length → sm ((List.range n).map fun j => xs.getD j 0) = sm (xs.take n)
  | 0, _ => by simp [sm]
  | n + 1, h => by rw [rmap_succ, sm_append, sm_getD xs n (by omega), sm_take xs n (by omega)]; simp [sm]
/-- What all are owed is what all owe. -/
theorem Bk.sums {c : List Int} {d : List (List Int)} (B : Bk c d) : ∀ i, i ≤ c.length → sm ((List.range c.length).map (owedI d i)) = sm ((List.range i).map (owesI d))
  | 0, _ => by
    have : (List.range c.length).map (owedI d 0) = (List.range c.length).map fun j => ([] : List Int).getD j 0 := rmap_congr fun j _ => by simp [owedI, sm]
    rw [this]
    have h : ∀ n, sm ((List.range n).map fun j => ([] : List Int).getD j 0) = 0 := by
      intro n
      induction n with
      | zero => simp [sm]
      | succ n ih => rw [rmap_succ, sm_append, ih]; simp [sm]
    rw [h]; simp [sm]
  | i + 1, hi => by
    have e : (List.range c.length).map (owedI d (i + 1)) = (List.range c.length).map fun j => owedI d i j + (d.getD i []).getD j 0 := rmap_congr fun j _ => owedI_succ d i j (by rw [B.hd]; omega)
    rw [e, sm_rmap_add, B.sums i (by omega), sm_getD _ _ (by rw [B.hr i (by omega)]; omega), rmap_succ, sm_append]
    have : (d.getD i []).take c.length = d.getD i [] := List.take_of_length_le (by rw [B.hr i (by omega)]; omega)
    rw [this]; simp [sm, owesI]
theorem Bk.total {c : List Int} {d : List (List Int)} (B : Bk c d) : sm (owedV d c.length) = sm (owesV d c.length) := B.sums c.length (by omega)
theorem Bk.owesV_in {c : List Int} {d : List (List Int)} (B : Bk c d) : ∀ x ∈ owesV d c.length, 0 ≤ x ∧ x ≤ 36 := by
  intro x hx
  obtain ⟨i, hi, rfl⟩ := List.mem_map.1 hx
  exact B.owes_bound (List.mem_range.1 hi)
theorem Bk.owedV_in {c : List Int} {d : List (List Int)} (B : Bk c d) : ∀ x ∈ owedV d c.length, 0 ≤ x ∧ x ≤ 36 := by
  intro x hx
  obtain ⟨i, hi, rfl⟩ := List.mem_map.1 hx
  have := B.owed_bound (List.mem_range.1 hi) c.length (by omega)
  have := B.n4
  omega
theorem owesV_len (d : List (List Int)) (n : Nat) : (owesV d n).length = n := by simp [owesV]
theorem owedV_len (d : List (List Int)) (n : Nat) : (owedV d n).length = n := by simp [owedV]
theorem netsV_len (d : List (List Int)) (n : Nat) : (netsV d n).length = n := by simp [netsV]
theorem Bk.netsV_in {c : List Int} {d : List (List Int)} (B : Bk c d) : ∀ x ∈ netsV d c.length, -36 ≤ x ∧ x ≤ 36 := by
  intro x hx
  obtain ⟨i, hi, rfl⟩ := List.mem_map.1 hx
  have h1 := B.owed_bound (List.mem_range.1 hi) c.length (by omega)
  have h2 := B.owes_bound (List.mem_range.1 hi)
  have := B.n4
  omega
theorem Bk.nets_sum {c : List Int} {d : List (List Int)} (B : Bk c d) : sm (netsV d c.length) = 0 := by
  have h := sm_rmap_sub (owedI d c.length) (owesI d) c.length
  have t := B.total
  unfold owedV owesV at t
  unfold netsV
  omega

theorem getD_bound {d : List (List Int)} {n : Nat} (h : ∀ r ∈ d, r.length ≤ n) (i : Nat) : (d.getD i []).length ≤ n := by
  rw [List.getD_eq_getElem?_getD]
  by_cases hi : i < d.length
  · rw [List.getElem?_eq_getElem hi]; exact h _ (List.getElem_mem hi)
  · rw [List.getElem?_eq_none (by omega)]; simp

theorem l1In_b (n a b : Int) : spec_l1In.f n a b = some (decide (a ≤ n ∧ n ≤ b)) := by
  unfold spec_l1In.f
  by_cases h : n ≥ a
  · rw [if_pos h]; congr 1; rw [Bool.eq_iff_iff, decide_eq_true_iff, decide_eq_true_iff]; omega
  · rw [if_neg h]; congr 1; symm; exact decide_eq_false (by omega)
theorem specBookOk_l1 (c : List Int) (d : List (List Int)) (i : Nat) (hi : i < d.length) (hr : (d.getD i []).length ≤ 9223372036854775807) (r : Bool) (hn : Ev (fun k => spec_BookOk.l0 k (wrap64 ((i : Int) + 1)) c d) r) :
    ∀ (m j : Nat), j + m = (d.getD i []).length → Ev (fun k => spec_BookOk.l1 k (i : Int) (j : Int) c d) (((d.getD i []).drop j).all debtOk && r)
  | 0, j => fun h => by
    rw [drop_end _ _ (by omega)]
    refine Ev.step (fun k => ?_) hn
    simp only [spec_BookOk.l1]
    rw [rdR_nat, if_pos (by omega), if_pos (by omega), if_neg (by omega)]
  | m + 1, j => fun h => by
    rw [drop_step _ j 0 (by omega), List.all_cons]
    have ih := specBookOk_l1 c d i hi hr r hn m (j + 1) (by omega)
    have hstep : ∀ k, spec_BookOk.l1 (k + 1) (i : Int) (j : Int) c d = if debtOk ((d.getD i []).getD j 0) = true then spec_BookOk.l1 k (i : Int) ((j + 1 : Nat) : Int) c d else some false := by
      intro k
      simp only [spec_BookOk.l1]
      rw [rdR_nat, if_pos (by omega), if_pos (by omega), if_pos (by omega), if_pos (by omega), rd_nat, l1In_b, w64 (show j < (d.getD i []).length by omega) hr]
      rfl
    refine Ev.step hstep ?_
    cases hb : debtOk ((d.getD i []).getD j 0) with
    | true => exact evPos rfl (by simpa using ih)
    | false => exact evNeg (by simp) (by simpa using Ev.now false)
theorem specBookOk_l0 (c : List Int) (d : List (List Int)) (hc : c.length ≤ 9223372036854775807) (hd : d.length = c.length) (hr : ∀ i, (d.getD i []).length ≤ 9223372036854775807) :
    ∀ (m i : Nat), i + m = c.length → Ev (fun k => spec_BookOk.l0 k (i : Int) c d) ((List.range' i (c.length - i)).all (rowOk c d))
  | 0, i => fun h => by
    rw [range_end _ _ (by omega)]
    refine Ev.step (f := fun _ => some true) (fun k => ?_) (Ev.now true)
    simp only [spec_BookOk.l0]
    rw [if_neg (by omega)]
  | m + 1, i => fun h => by
    rw [range_step _ _ (by omega), List.all_cons]
    have ih := specBookOk_l0 c d hc hd hr m (i + 1) (by omega)
    rw [← w64 (show i < c.length by omega) hc] at ih
    refine Ev.step (fun k => by simp only [spec_BookOk.l0]; rfl) ?_
    rw [rdR_nat]
    simp only [rd_nat, l1In_b, Option.bind_some]
    refine evPos (by omega) (evPos (by omega) ?_)
    have fin : ∀ b : Bool, b = true → Ev (fun k => spec_BookOk.j2 k (i : Int) b c d) false := fun b hb => by
      refine Ev.step (f := fun _ => some false) (fun k => ?_) (Ev.now false)
      simp only [spec_BookOk.j2]
      rw [if_pos hb]
    by_cases h1 : 0 ≤ c.getD i 0 ∧ c.getD i 0 ≤ 20
    · refine evPos (decide_eq_true_iff.2 h1) (evPos (by omega) ?_)
      by_cases h2 : (d.getD i []).length = c.length
      · refine evPos (by omega) (evPos (by omega) ?_)
        by_cases h3 : (d.getD i []).getD i 0 = 0
        · have l1 := specBookOk_l1 c d i (by omega) (hr i) _ ih (d.getD i []).length 0 (by omega)
          refine Ev.step (f := fun k => spec_BookOk.l1 k (i : Int) ((0 : Nat) : Int) c d) (fun k => ?_) (evIs l1 ?_)
          · simp only [spec_BookOk.j2]
            rw [if_neg (by simpa using h3)]; rfl
          · rw [rowOk_of h1 h2 h3, List.drop_zero]
        · exact evIs (fin _ (by simpa using h3)) (by rw [rowOk_f3 h3, Bool.false_and])
      · exact evNeg (by omega) (evIs (fin _ rfl) (by rw [rowOk_f2 h2, Bool.false_and]))
    · exact evNeg (fun h => h1 (decide_eq_true_iff.1 h)) (evIs (fin _ rfl) (by rw [rowOk_f1 h1, Bool.false_and]))
theorem specBookOk_f (c : List Int) (d : List (List Int)) (hc : c.length ≤ 9223372036854775807) (hr : ∀ i, (d.getD i []).length ≤ 9223372036854775807) : Ev (fun k => spec_BookOk.f k c d) (okB c d) := by
  refine Ev.congr (fun k => by unfold spec_BookOk.f; rw [l1In_b, Option.bind_some]) ?_
  have fin : ∀ b : Bool, b = true → Ev (fun k => spec_BookOk.j0 k b c d) false := fun b hb => by
    refine Ev.step (f := fun _ => some false) (fun k => ?_) (Ev.now false)
    simp only [spec_BookOk.j0]
    rw [if_pos hb]
  by_cases h1 : 1 ≤ c.length ∧ c.length ≤ 4
  · refine evPos (decide_eq_true_iff.2 (by omega)) ?_
    by_cases h2 : d.length = c.length
    · have l0 := specBookOk_l0 c d hc h2 hr c.length 0 (by omega)
      refine Ev.step (f := fun k => spec_BookOk.l0 k ((0 : Nat) : Int) c d) (fun k => ?_) (evIs l0 ?_)
      · simp only [spec_BookOk.j0]
        rw [if_neg (by simp [h2])]; rfl
      · rw [okB_of h1 h2]; rfl
    · exact evIs (fin _ (by simp; omega)) (by rw [okB_f2 h2])
  · exact evNeg (fun h => by have := decide_eq_true_iff.1 h; omega) (evIs (fin _ rfl) (by rw [okB_f1 h1]))

theorem isBook_l1 (c : List Int) (d : List (List Int)) (n D I : Int) (row : List Int) (hr : row.length ≤ 9223372036854775807) (r : Bool) (hn : Ev (fun k => impl_isBook.l0 k n d D (wrap64 (I + 1)) c d) r) :
    ∀ (m j : Nat), j + m = row.length → Ev (fun k => impl_isBook.l1 k n d D I row (row.length : Int) (j : Int) c d) ((row.drop j).all debtOk && r)
  | 0, j => fun h => by
    rw [drop_end _ _ (by omega)]
    refine Ev.step (fun k => ?_) hn
    simp only [impl_isBook.l1]
    rw [if_neg (by omega)]
  | m + 1, j => fun h => by
    rw [drop_step _ j 0 (by omega), List.all_cons]
    have ih := isBook_l1 c d n D I row hr r hn m (j + 1) (by omega)
    have hstep : ∀ k, impl_isBook.l1 (k + 1) n d D I row (row.length : Int) (j : Int) c d = if debtOk (row.getD j 0) = true then impl_isBook.l1 k n d D I row (row.length : Int) ((j + 1 : Nat) : Int) c d else some false := by
      intro k
      simp only [impl_isBook.l1]
      rw [if_pos (by omega), if_pos (by omega), if_pos (by omega), rd_nat, w64 (show j < row.length by omega) hr]
      unfold debtOk
      by_cases a : row.getD j 0 < 0
      · rw [if_pos a, if_neg (by rw [decide_eq_true_iff]; omega)]
      · by_cases b : row.getD j 0 > 9
        · rw [if_neg a, if_pos b, if_neg (by rw [decide_eq_true_iff]; omega)]
        · rw [if_neg a, if_neg b, if_pos (by rw [decide_eq_true_iff]; omega)]
    refine Ev.step hstep ?_
    cases hb : debtOk (row.getD j 0) with
    | true => exact evPos rfl (by simpa using ih)
    | false => exact evNeg (by simp) (by simpa using Ev.now false)
theorem isBook_l0 (c : List Int) (d : List (List Int)) (hc : c.length ≤ 9223372036854775807) (hd : d.length = c.length) (hr : ∀ i, (d.getD i []).length ≤ 9223372036854775807) :
    ∀ (m i : Nat), i + m = c.length → Ev (fun k => impl_isBook.l0 k (c.length : Int) d (d.length : Int) (i : Int) c d) ((List.range' i (c.length - i)).all (rowOk c d))
  | 0, i => fun h => by
    rw [range_end _ _ (by omega)]
    refine Ev.step (f := fun _ => some true) (fun k => ?_) (Ev.now true)
    simp only [impl_isBook.l0]
    rw [if_neg (by omega)]
  | m + 1, i => fun h => by
    rw [range_step _ _ (by omega), List.all_cons]
    have ih := isBook_l0 c d hc hd hr m (i + 1) (by omega)
    rw [← w64 (show i < c.length by omega) hc] at ih
    refine Ev.step (fun k => by simp only [impl_isBook.l0]; rfl) ?_
    rw [rdR_nat]
    simp only [rd_nat]
    refine evPos (by omega) (evPos (by omega) (evPos (by omega) (evPos (by omega) ?_)))
    have fin : ∀ b : Bool, b = true → Ev (fun k => impl_isBook.j2 k (c.length : Int) (d.getD i []) d (d.length : Int) (i : Int) b c d) false := fun b hb => by
      refine Ev.step (f := fun _ => some false) (fun k => ?_) (Ev.now false)
      simp only [impl_isBook.j2]
      rw [if_pos hb]
    by_cases h1 : c.getD i 0 < 0
    · refine evPos h1 (evIs (fin _ rfl) ?_)
      rw [rowOk_f1 (by omega), Bool.false_and]
    refine evNeg h1 ?_
    by_cases h2 : c.getD i 0 > 20
    · refine evPos h2 (evIs (fin _ rfl) ?_)
      rw [rowOk_f1 (by omega), Bool.false_and]
    refine evNeg h2 ?_
    have h12 : 0 ≤ c.getD i 0 ∧ c.getD i 0 ≤ 20 := by omega
    by_cases h3 : (d.getD i []).length = c.length
    · refine evPos (by omega) (evPos (by omega) ?_)
      by_cases h4 : (d.getD i []).getD i 0 = 0
      · have l1 := isBook_l1 c d (c.length : Int) (d.length : Int) (i : Int) (d.getD i []) (hr i) _ ih (d.getD i []).length 0 (by omega)
        refine Ev.step (f := fun k => impl_isBook.l1 k (c.length : Int) d (d.length : Int) (i : Int) (d.getD i []) ((d.getD i []).length : Int) ((0 : Nat) : Int) c d) (fun k => ?_) (evIs l1 ?_)
        · simp only [impl_isBook.j2]
          rw [if_neg (by simpa using h4)]; rfl
        · rw [rowOk_of h12 h3 h4, List.drop_zero]
      · exact evIs (fin _ (by simpa using h4)) (by rw [rowOk_f3 h4, Bool.false_and])
    · exact evNeg (by omega) (evIs (fin _ rfl) (by rw [rowOk_f2 h3, Bool.false_and]))
theorem isBook_f (c : List Int) (d : List (List Int)) (hc : c.length ≤ 9223372036854775807) (hr : ∀ i, (d.getD i []).length ≤ 9223372036854775807) : Ev (fun k => impl_isBook.f k c d) (okB c d) := by
  refine Ev.congr (fun k => by unfold impl_isBook.f; rfl) ?_
  have fin : ∀ b : Bool, b = true → Ev (fun k => impl_isBook.j0 k (c.length : Int) b c d) false := fun b hb => by
    refine Ev.step (f := fun _ => some false) (fun k => ?_) (Ev.now false)
    simp only [impl_isBook.j0]
    rw [if_pos hb]
  by_cases h1 : (c.length : Int) < 1
  · exact evPos h1 (evIs (fin _ rfl) (by rw [okB_f1 (by omega)]))
  refine evNeg h1 ?_
  by_cases h2 : (c.length : Int) > 4
  · exact evPos h2 (evIs (fin _ rfl) (by rw [okB_f1 (by omega)]))
  refine evNeg h2 ?_
  have h12 : 1 ≤ c.length ∧ c.length ≤ 4 := by omega
  by_cases h3 : d.length = c.length
  · have l0 := isBook_l0 c d hc h3 hr c.length 0 (by omega)
    refine Ev.step (f := fun k => impl_isBook.l0 k (c.length : Int) d (d.length : Int) ((0 : Nat) : Int) c d) (fun k => ?_) (evIs l0 ?_)
    · simp only [impl_isBook.j0]
      rw [if_neg (by simp [h3])]; rfl
    · rw [okB_of h12 h3]; rfl
  · exact evIs (fin _ (by simp; omega)) (by rw [okB_f2 h3])

theorem szIntS_f (l : List Int) (a : Int) (ha : -1 ≤ a ∧ a ≤ 1048576) (hl : l.length ≤ 9223372036854775807) : laws_szIntS.f l a = some (if a - (l.length : Int) < 0 then -1 else a - (l.length : Int)) := by
  unfold laws_szIntS.f
  have w : wrap64 (a - (l.length : Int)) = a - (l.length : Int) := by unfold wrap64; omega
  rw [w]; split <;> rfl
theorem szIntSS_l0 (d : List (List Int)) (hd : d.length ≤ 9223372036854775807) (hr : ∀ i, (d.getD i []).length ≤ 9223372036854775807) :
    ∀ (m i : Nat) (a : Int), i + m = d.length → 0 ≤ a ∧ a ≤ 1048576 → ∃ t, Ev (fun k => laws_szIntSS.l0 k d a (i : Int)) t ∧ -1 ≤ t ∧ t ≤ 1048576 ∧ (0 ≤ t → ∀ j, i ≤ j → j < d.length → (d.getD j []).length ≤ 1048576)
  | 0, i, a => fun h ha => by
    refine ⟨a, Ev.step (f := fun _ => some a) (fun k => ?_) (Ev.now a), by omega, by omega, fun _ j h1 h2 => by omega⟩
    simp only [laws_szIntSS.l0]
    rw [if_neg (by omega)]
  | m + 1, i, a => fun h ha => by
    have hs : ∀ k, laws_szIntSS.l0 (k + 1) d a (i : Int) = if a - ((d.getD i []).length : Int) < 0 then some (-1) else laws_szIntSS.l0 k d (a - ((d.getD i []).length : Int)) ((i + 1 : Nat) : Int) := by
      intro k
      simp only [laws_szIntSS.l0]
      rw [if_pos (by omega), if_pos (by omega), rdR_nat, szIntS_f _ _ (by omega) (hr i), w64 (show i < d.length by omega) hd]
      simp only [Option.bind_some]
      by_cases hn : a - ((d.getD i []).length : Int) < 0
      · rw [if_pos hn, if_pos (by omega), if_pos hn]
      · rw [if_neg hn, if_neg hn]
    by_cases hn : a - ((d.getD i []).length : Int) < 0
    · exact ⟨-1, Ev.step hs (evPos hn (Ev.now _)), by omega, by omega, fun h => by omega⟩
    · obtain ⟨t, h1, h2, h3, h4⟩ := szIntSS_l0 d hd hr m (i + 1) (a - ((d.getD i []).length : Int)) (by omega) (by omega)
      refine ⟨t, Ev.step hs (evNeg hn h1), h2, h3, fun h0 j j1 j2 => ?_⟩
      by_cases e : j = i
      · subst e; omega
      · exact h4 h0 j (by omega) j2
theorem szBook_f (c : List Int) (d : List (List Int)) (hc : c.length ≤ 9223372036854775807) (hd : d.length ≤ 9223372036854775807) (hr : ∀ i, (d.getD i []).length ≤ 9223372036854775807) :
    ∃ t, Ev (fun k => laws_szBook.f k c d 1048576) t ∧ (¬ t < 0 → c.length ≤ 1048576 ∧ d.length ≤ 1048576 ∧ ∀ j, (d.getD j []).length ≤ 1048576) := by
  have hs : ∀ k, laws_szBook.f k c d 1048576 = if 1048576 - (c.length : Int) < 0 then some (-1) else (laws_szIntSS.f k d (1048576 - (c.length : Int))).bind fun t => if t < 0 then some (-1) else some t := by
    intro k
    unfold laws_szBook.f
    rw [szIntS_f _ _ (by omega) hc]
    simp only [Option.bind_some]
    by_cases hn : 1048576 - (c.length : Int) < 0
    · rw [if_pos hn, if_pos (by omega), if_pos hn]
    · rw [if_neg hn, if_neg hn]
  by_cases hn : 1048576 - (c.length : Int) < 0
  · exact ⟨-1, Ev.congr hs (evPos hn (Ev.now _)), fun h => by omega⟩
  · have w : wrap64 (1048576 - (c.length : Int) - (d.length : Int)) = 1048576 - (c.length : Int) - (d.length : Int) := by unfold wrap64; omega
    by_cases hm : 1048576 - (c.length : Int) - (d.length : Int) < 0
    · refine ⟨-1, Ev.congr hs (evNeg hn (Ev.bind (a := -1) (Ev.congr (fun k => by unfold laws_szIntSS.f; rw [w]) (evPos hm (Ev.now _))) (evPos (by omega) (Ev.now _)))), fun h => by omega⟩
    · obtain ⟨t, h1, h2, h3, h4⟩ := szIntSS_l0 d hd hr d.length 0 (1048576 - (c.length : Int) - (d.length : Int)) (by omega) (by omega)
      refine ⟨if t < 0 then -1 else t, Ev.congr hs (evNeg hn (Ev.bind (a := t) (Ev.congr (fun k => by unfold laws_szIntSS.f; rw [w, if_neg hm]; rfl) h1) ?_)), fun h => ⟨by omega, by omega, fun j => ?_⟩⟩
      · split <;> exact Ev.now _
      · have ht : 0 ≤ t := by split at h <;> omega
        by_cases hj : j < d.length
        · exact h4 ht j (by omega) hj
        · rw [List.getD_eq_getElem?_getD, List.getElem?_eq_none (by omega)]; simp

theorem fill_step {α : Type} (xs : List α) (z y : α) (i : Nat) (h : i < xs.length) : (xs.take i ++ List.replicate (xs.length - i) z).set i (xs.getD i y) = xs.take (i + 1) ++ List.replicate (xs.length - (i + 1)) z := by
  have hl : (xs.take i).length = i := by simp; omega
  rw [List.set_append_right _ _ (by omega), hl, Nat.sub_self]
  have : xs.length - i = (xs.length - (i + 1)) + 1 := by omega
  rw [this, List.replicate_succ, List.set_cons_zero, List.take_add_one, List.getElem?_eq_getElem h, List.getD_eq_getElem?_getD, List.getElem?_eq_getElem h, List.append_assoc]
  rfl
theorem toIntS_l0 (l : List Int) (hl : l.length ≤ 1048576) : ∀ (m i : Nat), i + m = l.length → Ev (fun k => laws_toIntS.l0 k l (l.take i ++ List.replicate (l.length - i) 0) (i : Int)) l
  | 0, i => fun h => by
    refine Ev.step (f := fun _ => some l) (fun k => ?_) (Ev.now l)
    simp only [laws_toIntS.l0]
    rw [if_neg (by omega), List.take_of_length_le (by omega), show l.length - i = 0 by omega]
    simp
  | m + 1, i => fun h => by
    refine Ev.step (fun k => ?_) (toIntS_l0 l hl m (i + 1) (by omega))
    simp only [laws_toIntS.l0]
    rw [if_pos (by omega), if_pos (by omega), if_pos (by simp; omega), rd_nat, Int.toNat_natCast, fill_step _ _ _ _ (by omega), w64 (show i < l.length by omega) (by omega)]
theorem toIntS_f (l : List Int) (hl : l.length ≤ 1048576) : Ev (fun k => laws_toIntS.f k l) l := by
  refine Ev.congr (fun k => ?_) (toIntS_l0 l hl l.length 0 (by omega))
  unfold laws_toIntS.f
  rw [if_pos (by omega), if_pos (by omega)]
  rfl
theorem toIntSS_l0 (l : List (List Int)) (hl : l.length ≤ 1048576) (hr : ∀ i, (l.getD i []).length ≤ 1048576) : ∀ (m i : Nat), i + m = l.length → Ev (fun k => laws_toIntSS.l0 k l (l.take i ++ List.replicate (l.length - i) []) (i : Int)) l
  | 0, i => fun h => by
    refine Ev.step (f := fun _ => some l) (fun k => ?_) (Ev.now l)
    simp only [laws_toIntSS.l0]
    rw [if_neg (by omega), List.take_of_length_le (by omega), show l.length - i = 0 by omega]
    simp
  | m + 1, i => fun h => by
    refine Ev.step (fun k => ?_) (Ev.bind (f := fun k t => laws_toIntSS.l0 k l ((l.take i ++ List.replicate (l.length - i) []).set i t) ((i + 1 : Nat) : Int)) (toIntS_f (l.getD i []) (hr i)) ?_)
    · simp only [laws_toIntSS.l0]
      rw [if_pos (by omega), if_pos (by omega), rdR_nat, w64 (show i < l.length by omega) (by omega)]
      congr 1
      funext t
      rw [if_pos (by simp; omega), Int.toNat_natCast]
    · rw [fill_step _ _ _ _ (by omega)]
      exact toIntSS_l0 l hl hr m (i + 1) (by omega)
theorem toIntSS_f (l : List (List Int)) (hl : l.length ≤ 1048576) (hr : ∀ i, (l.getD i []).length ≤ 1048576) : Ev (fun k => laws_toIntSS.f k l) l := by
  refine Ev.congr (fun k => ?_) (toIntSS_l0 l hl hr l.length 0 (by omega))
  unfold laws_toIntSS.f
  rw [if_pos (by omega), if_pos (by omega)]
  rfl
theorem toBook_f (c : List Int) (d : List (List Int)) (hc : c.length ≤ 1048576) (hd : d.length ≤ 1048576) (hr : ∀ i, (d.getD i []).length ≤ 1048576) : Ev (fun k => laws_toBook.f k c d) (c, d) :=
  Ev.congr (fun k => by unfold laws_toBook.f; rfl) (Ev.bind (toIntS_f c hc) (Ev.bind (toIntSS_f d hd hr) (Ev.now (c, d))))

theorem eqIntS_l0 (l : List Int) (hl : l.length ≤ 9223372036854775807) : ∀ (m i : Nat), i + m = l.length → Ev (fun k => laws_eqIntS.l0 k l l (i : Int)) true
  | 0, i => fun h => by
    refine Ev.step (f := fun _ => some true) (fun k => ?_) (Ev.now true)
    simp only [laws_eqIntS.l0]
    rw [if_neg (by omega)]
  | m + 1, i => fun h => by
    refine Ev.step (fun k => ?_) (eqIntS_l0 l hl m (i + 1) (by omega))
    simp only [laws_eqIntS.l0]
    rw [if_pos (by omega), if_pos (by omega), if_pos (by omega), if_pos trivial, w64 (show i < l.length by omega) hl]
theorem eqIntS_f (l : List Int) (hl : l.length ≤ 9223372036854775807) : Ev (fun k => laws_eqIntS.f k l l) true := by
  refine Ev.congr (fun k => ?_) (eqIntS_l0 l hl l.length 0 (by omega))
  unfold laws_eqIntS.f
  rw [if_pos rfl]; rfl

theorem eqIntSS_l0 (l : List (List Int)) (hl : l.length ≤ 9223372036854775807) (hr : ∀ i, (l.getD i []).length ≤ 9223372036854775807) : ∀ (m i : Nat), i + m = l.length → Ev (fun k => laws_eqIntSS.l0 k l l (i : Int)) true
  | 0, i => fun h => by
    refine Ev.step (f := fun _ => some true) (fun k => ?_) (Ev.now true)
    simp only [laws_eqIntSS.l0]
    rw [if_neg (by omega)]
  | m + 1, i => fun h => by
    have ih := eqIntSS_l0 l hl hr m (i + 1) (by omega)
    refine Ev.step (f := fun k => (laws_eqIntS.f k (l.getD i []) (l.getD i [])).bind fun t => if t = true then laws_eqIntSS.l0 k l l ((i + 1 : Nat) : Int) else some false) (fun k => ?_) (Ev.bind (eqIntS_f _ (hr i)) (evPos rfl ih))
    simp only [laws_eqIntSS.l0]
    rw [if_pos (by omega), if_pos (by omega), if_pos (by omega), rdR_nat, w64 (show i < l.length by omega) hl]
theorem eqIntSS_f (l : List (List Int)) (hl : l.length ≤ 9223372036854775807) (hr : ∀ i, (l.getD i []).length ≤ 9223372036854775807) : Ev (fun k => laws_eqIntSS.f k l l) true := by
  refine Ev.congr (fun k => ?_) (eqIntSS_l0 l hl hr l.length 0 (by omega))
  unfold laws_eqIntSS.f
  rw [if_pos rfl]; rfl
theorem eqBook_f (c : List Int) (d : List (List Int)) (hc : c.length ≤ 9223372036854775807) (hd : d.length ≤ 9223372036854775807) (hr : ∀ i, (d.getD i []).length ≤ 9223372036854775807) : Ev (fun k => laws_eqBook.f k c d c d) true :=
  Ev.congr (fun k => by unfold laws_eqBook.f; rfl) (Ev.bind (eqIntS_f c hc) (evPos rfl (Ev.bind (eqIntSS_f d hd hr) (evPos rfl (Ev.now _)))))

/-- The numbers from a on. -/
def seqF (a : Int) (n : Nat) : List Int := (List.range n).map fun (j : Nat) => a + (j : Int)
theorem seqF_succ (a : Int) (n : Nat) : seqF a (n + 1) = seqF a n ++ [a + (n : Int)] := by unfold seqF; rw [rmap_succ]
theorem markIntS_l0 (l : List Int) (a : Int) (ha : 0 ≤ a ∧ a ≤ 4000000000000000000) (hl : l.length ≤ 1048576) :
    ∀ m i, i + m = l.length → Ev (fun k => laws_markIntS.l0 k (seqF a i ++ l.drop i) (a + (i : Int)) (i : Int)) (a + (l.length : Int), seqF a l.length)
  | 0, i => fun h => by
    refine Ev.step (f := fun _ => some (a + (l.length : Int), seqF a l.length)) (fun k => ?_) (Ev.now _)
    simp only [laws_markIntS.l0]
    have hi : i = l.length := by omega
    subst hi
    rw [if_neg (by simp [seqF]), List.drop_length, List.append_nil]
  | m + 1, i => fun h => by
    refine Ev.step (fun k => ?_) (markIntS_l0 l a ha hl m (i + 1) (by omega))
    simp only [laws_markIntS.l0]
    have w : wrap64 (a + (i : Int) + 1) = a + ((i + 1 : Nat) : Int) := by unfold wrap64; omega
    rw [if_pos (by simp [seqF]; omega), if_pos (by omega), Int.toNat_natCast, drop_step l i 0 (by omega), mid_set _ _ _ _ _ (by simp [seqF]), seqF_succ, w, w64 (show i < l.length by omega) (by omega), List.append_assoc]; rfl
theorem markIntS_f (l : List Int) (a : Int) (ha : 0 ≤ a ∧ a ≤ 4000000000000000000) (hl : l.length ≤ 1048576) : Ev (fun k => laws_markIntS.f k l a) (a + (l.length : Int), seqF a l.length) :=
  Ev.congr (fun k => by unfold laws_markIntS.f; simp [seqF]) (markIntS_l0 l a ha hl l.length 0 (by omega))
theorem heldIntS_l0 (a : Int) (n : Nat) (ha : 0 ≤ a ∧ a ≤ 4000000000000000000) (hn : n ≤ 1048576) :
    ∀ m i, i + m = n → Ev (fun k => laws_heldIntS.l0 k (seqF a n) (a + (i : Int)) (i : Int)) (a + (n : Int))
  | 0, i => fun h => by
    refine Ev.step (f := fun _ => some (a + (n : Int))) (fun k => ?_) (Ev.now _)
    simp only [laws_heldIntS.l0]
    have hi : i = n := by omega
    subst hi
    rw [if_neg (by simp [seqF])]
  | m + 1, i => fun h => by
    refine Ev.step (fun k => ?_) (heldIntS_l0 a n ha hn m (i + 1) (by omega))
    simp only [laws_heldIntS.l0]
    have w : wrap64 (a + (i : Int) + 1) = a + ((i + 1 : Nat) : Int) := by unfold wrap64; omega
    rw [if_pos (by simp [seqF]; omega), if_pos (by omega), rd_nat, if_pos (by unfold seqF; rw [rmap_get _ _ _ (by omega)]), w, w64 (show i < n by omega) (by omega)]
theorem heldIntS_f (a : Int) (n : Nat) (ha : 0 ≤ a ∧ a ≤ 4000000000000000000) (hn : n ≤ 1048576) : Ev (fun k => laws_heldIntS.f k (seqF a n) a) (a + (n : Int)) :=
  Ev.congr (fun k => by unfold laws_heldIntS.f; simp) (heldIntS_l0 a n ha hn n 0 (by omega))
theorem markIntSS_l0 (n : Nat) (hn : n ≤ 1048576) : ∀ (m i : Nat) (x : List (List Int)) (a : Int), x.length = n → (∀ j, (x.getD j []).length ≤ 1048576) → i + m = n → 0 ≤ a ∧ a ≤ 1048576 * (i + 2 : Int) →
    ∃ t r, Ev (fun k => laws_markIntSS.l0 k x a (i : Int)) (t, r) ∧ 0 ≤ t
  | 0, i, x, a => fun hx hr h ha => by
    refine ⟨a, x, Ev.step (f := fun _ => some (a, x)) (fun k => ?_) (Ev.now _), ha.1⟩
    simp only [laws_markIntSS.l0]
    rw [if_neg (by omega)]
  | m + 1, i, x, a => fun hx hr h ha => by
    have hm := markIntS_f (x.getD i []) a (by omega) (hr i)
    have hri := hr i
    obtain ⟨t, r, h1, h2⟩ := markIntSS_l0 n hn m (i + 1) (x.set i (seqF a (x.getD i []).length)) (a + ((x.getD i []).length : Int)) (by simp; omega)
      (fun j => by
        rw [List.getD_eq_getElem?_getD, List.getElem?_set]
        by_cases e : i = j
        · subst e; rw [if_pos rfl, if_pos (by omega)]; simpa [seqF] using hri
        · rw [if_neg e, ← List.getD_eq_getElem?_getD]; exact hr j)
      (by omega) (by omega)
    refine ⟨t, r, Ev.step (f := fun k => (laws_markIntS.f k (x.getD i []) a).bind fun bt => laws_markIntSS.l0 k (x.set i bt.2) bt.1 ((i + 1 : Nat) : Int)) (fun k => ?_) (Ev.bind hm h1), h2⟩
    simp only [laws_markIntSS.l0]
    rw [if_pos (by omega), if_pos (by omega), rdR_nat, Int.toNat_natCast, w64 (show i < n by omega) (by omega)]
theorem markSS_from (d : List (List Int)) (hd : d.length ≤ 1048576) (hr : ∀ j, (d.getD j []).length ≤ 1048576) (a : Int) (ha : 0 ≤ a ∧ a ≤ 2097152) : ∃ t r, Ev (fun k => laws_markIntSS.l0 k d a 0) (t, r) ∧ 0 ≤ t :=
  markIntSS_l0 d.length hd d.length 0 d a rfl hr (by omega) (by omega)
theorem markBook_f (c : List Int) (d : List (List Int)) (hc : c.length ≤ 1048576) (hd : d.length ≤ 1048576) (hr : ∀ j, (d.getD j []).length ≤ 1048576) : ∃ t, Ev (fun k => laws_markBook.f k c d 1) t ∧ ¬ t < 0 := by
  have h1 := markIntS_f c 1 (by omega) hc
  -- one bound for all that follows
  obtain ⟨t, r, h2, h3⟩ : ∃ t r, Ev (fun k => laws_markIntSS.l0 k d (1 + (c.length : Int)) 0) (t, r) ∧ 0 ≤ t := markSS_from d hd hr (1 + (c.length : Int)) (by omega)
  exact ⟨t, Ev.congr (fun k => by unfold laws_markBook.f; rfl) (Ev.bind h1 (Ev.bind (show Ev (fun k => laws_markIntSS.f k d (1 + (c.length : Int))) (t, r) from h2) (Ev.now t))), by omega⟩

/-- The rows' numbers from a on. -/
def seqSS : Int → List (List Int) → List (List Int)
  | _, [] => []
  | a, r :: rs => seqF a r.length :: seqSS (a + (r.length : Int)) rs
def totSS : List (List Int) → Nat
  | [] => 0
  | r :: rs => r.length + totSS rs
theorem get_mid (a : List (List Int)) (v : List Int) (b : List (List Int)) : (a ++ v :: b).getD a.length [] = v := by
  rw [List.getD_eq_getElem?_getD, List.getElem?_append_right (by omega), Nat.sub_self]; rfl
theorem set_mid (a : List (List Int)) (v u : List Int) (b : List (List Int)) : (a ++ v :: b).set a.length u = (a ++ [u]) ++ b := by
  rw [List.set_append_right _ _ (by omega), Nat.sub_self, List.set_cons_zero, List.append_assoc]; rfl
theorem markSS_l0 : ∀ (rs done : List (List Int)) (a : Int), done.length + rs.length ≤ 1048576 → (∀ r ∈ rs, r.length ≤ 1048576) → 0 ≤ a → a + (totSS rs : Int) ≤ 4000000000000000000 →
    Ev (fun k => laws_markIntSS.l0 k (done ++ rs) a (done.length : Int)) (a + (totSS rs : Int), done ++ seqSS a rs)
  | [], done, a => fun hl hr h0 h1 => by
    refine Ev.step (f := fun _ => some (a, done ++ [])) (fun k => ?_) (by simp only [totSS, seqSS]; rw [show a + ((0 : Nat) : Int) = a by omega]; exact Ev.now _)
    rw [laws_markIntSS.l0, List.append_nil, if_neg (by omega)]
  | r :: rs, done, a => fun hl hr h0 h1 => by
    have hrl := hr r List.mem_cons_self
    simp only [totSS, List.length_cons] at h1 hl
    have hm := markIntS_f r a (by omega) hrl
    have ih := markSS_l0 rs (done ++ [seqF a r.length]) (a + (r.length : Int)) (by simp; omega) (fun x hx => hr x (List.mem_cons_of_mem _ hx)) (by omega) (by omega)
    have e1 : (a + (r.length : Int)) + (totSS rs : Int) = a + (totSS (r :: rs) : Int) := by simp only [totSS]; omega
    have e2 : (done ++ [seqF a r.length]) ++ seqSS (a + (r.length : Int)) rs = done ++ seqSS a (r :: rs) := by rw [List.append_assoc]; rfl
    have e3 : (((done ++ [seqF a r.length]).length : Nat) : Int) = wrap64 ((done.length : Int) + 1) := by rw [w64 (show done.length < 2000000 by omega) (by omega)]; simp
    rw [e1, e2, e3] at ih
    refine Ev.step (f := fun k => (laws_markIntS.f k r a).bind fun bt => laws_markIntSS.l0 k ((done ++ r :: rs).set done.length bt.2) bt.1 (wrap64 ((done.length : Int) + 1))) (fun k => ?_) (Ev.bind hm (by show Ev (fun k => laws_markIntSS.l0 k ((done ++ r :: rs).set done.length (seqF a r.length)) (a + (r.length : Int)) (wrap64 ((done.length : Int) + 1))) _; rw [set_mid]; exact ih))
    simp only [laws_markIntSS.l0]
    rw [if_pos (by simp; omega), if_pos (by omega), rdR_nat, get_mid, Int.toNat_natCast]
theorem markSS_f (rs : List (List Int)) (a : Int) (hl : rs.length ≤ 1048576) (hr : ∀ r ∈ rs, r.length ≤ 1048576) (h0 : 0 ≤ a) (h1 : a + (totSS rs : Int) ≤ 4000000000000000000) :
    Ev (fun k => laws_markIntSS.f k rs a) (a + (totSS rs : Int), seqSS a rs) :=
  markSS_l0 rs [] a (by simpa using hl) hr h0 h1
theorem heldSS_l0 : ∀ (rs done : List (List Int)) (a : Int), done.length + rs.length ≤ 1048576 → (∀ r ∈ rs, r.length ≤ 1048576) → 0 ≤ a → a + (totSS rs : Int) ≤ 4000000000000000000 →
    Ev (fun k => laws_heldIntSS.l0 k (done ++ seqSS a rs) a (done.length : Int)) (a + (totSS rs : Int))
  | [], done, a => fun hl hr h0 h1 => by
    refine Ev.step (f := fun _ => some a) (fun k => ?_) (by simp only [totSS]; rw [show a + ((0 : Nat) : Int) = a by omega]; exact Ev.now _)
    show laws_heldIntSS.l0 (k + 1) (done ++ []) a (done.length : Int) = _
    rw [laws_heldIntSS.l0, List.append_nil, if_neg (by omega)]
  | r :: rs, done, a => fun hl hr h0 h1 => by
    have hrl := hr r List.mem_cons_self
    simp only [totSS, List.length_cons] at h1 hl
    have hm := heldIntS_f a r.length (by omega) hrl
    have ih := heldSS_l0 rs (done ++ [seqF a r.length]) (a + (r.length : Int)) (by simp; omega) (fun x hx => hr x (List.mem_cons_of_mem _ hx)) (by omega) (by omega)
    have e0 : seqSS a (r :: rs) = seqF a r.length :: seqSS (a + (r.length : Int)) rs := rfl
    rw [e0]
    have e1 : (a + (r.length : Int)) + (totSS rs : Int) = a + (totSS (r :: rs) : Int) := by simp only [totSS]; omega
    have e2 : (done ++ [seqF a r.length]) ++ seqSS (a + (r.length : Int)) rs = done ++ seqF a r.length :: seqSS (a + (r.length : Int)) rs := by rw [List.append_assoc]; rfl
    have e3 : (((done ++ [seqF a r.length]).length : Nat) : Int) = wrap64 ((done.length : Int) + 1) := by rw [w64 (show done.length < 2000000 by omega) (by omega)]; simp
    rw [e1, e2, e3] at ih
    refine Ev.step (f := fun k => (laws_heldIntS.f k (seqF a r.length) a).bind fun t => if t < 0 then some (-1) else laws_heldIntSS.l0 k (done ++ seqF a r.length :: seqSS (a + (r.length : Int)) rs) t (wrap64 ((done.length : Int) + 1))) (fun k => ?_) (Ev.bind hm (evNeg (by omega) ih))
    rw [laws_heldIntSS.l0, if_pos (by simp; omega), if_pos (by omega), rdR_nat, get_mid]
theorem heldSS_f (rs : List (List Int)) (a : Int) (hl : rs.length ≤ 1048576) (hr : ∀ r ∈ rs, r.length ≤ 1048576) (h0 : 0 ≤ a) (h1 : a + (totSS rs : Int) ≤ 4000000000000000000) :
    Ev (fun k => laws_heldIntSS.f k (seqSS a rs) a) (a + (totSS rs : Int)) :=
  heldSS_l0 rs [] a (by simpa using hl) hr h0 h1
theorem totSS_le {b : Nat} : ∀ (rs : List (List Int)), (∀ r ∈ rs, r.length ≤ b) → totSS rs ≤ b * rs.length
  | [], _ => by simp [totSS]
  | r :: rs, h => by
    have h1 := h r List.mem_cons_self
    have h2 := totSS_le rs (fun x hx => h x (List.mem_cons_of_mem _ hx))
    simp only [totSS, List.length_cons, Nat.mul_succ]
    omega
theorem mem_bound {b : Nat} {rs : List (List Int)} (h : ∀ i, (rs.getD i []).length ≤ b) : ∀ r ∈ rs, r.length ≤ b := by
  intro r hr
  obtain ⟨i, hi, e⟩ := List.mem_iff_getElem.1 hr
  have := h i
  rw [List.getD_eq_getElem?_getD, List.getElem?_eq_getElem hi] at this
  rw [← e]; exact this

theorem specOwes_l1 {c : List Int} {d : List (List Int)} (B : Bk c d) (acc : List Int) (ha : acc.length ≤ 4) (i : Nat) (hi : i < c.length) (res : List Int) (hn : Ev (fun k => spec_OwesOf.l0 k (acc ++ [owesI d i]) ((i + 1 : Nat) : Int) c d) res) :
    ∀ m j, j + m = c.length → Ev (fun k => spec_OwesOf.l1 k acc (i : Int) (sm ((d.getD i []).take j)) (j : Int) c d) res
  | 0, j => fun h => by
    refine Ev.step (fun k => ?_) hn
    simp only [spec_OwesOf.l1]
    rw [if_neg (by omega), if_pos (by omega), w64 (show i < 9 by have := B.n4; omega) (by omega), List.take_of_length_le (by rw [B.hr i hi]; omega)]; rfl
  | m + 1, j => fun h => by
    have hb := B.row_take hi j
    have he := B.ent (i := i) (j := j) hi (by omega)
    have w : wrap64 (sm ((d.getD i []).take j) + (d.getD i []).getD j 0) = sm ((d.getD i []).take (j + 1)) := by
      rw [sm_take _ _ (by rw [B.hr i hi]; omega)]; unfold wrap64; omega
    refine Ev.step (fun k => ?_) (specOwes_l1 B acc ha i hi res hn m (j + 1) (by omega))
    simp only [spec_OwesOf.l1]
    rw [rdR_nat, rd_nat, if_pos (by omega), if_pos (by omega), if_pos (by rw [B.hd]; omega), if_pos (by omega), if_pos (by rw [B.hr i hi]; omega), w, w64 (show j < 9 by have := B.n4; omega) (by omega)]
theorem specOwes_l0 {c : List Int} {d : List (List Int)} (B : Bk c d) (hb : Ev (fun k => spec_BookOk.f k c d) true) :
    ∀ m i, i + m = c.length → Ev (fun k => spec_OwesOf.l0 k (owesV d i) (i : Int) c d) (owesV d c.length)
  | 0, i => fun h => by
    have hi : i = c.length := by omega
    subst hi
    refine Ev.step (f := fun k => spec_OwesOf.j1 k (owesV d c.length) (c.length : Int) false c d) (fun k => ?_) (Ev.step (f := fun _ => some (owesV d c.length)) (fun k => ?_) (Ev.now _))
    · simp only [spec_OwesOf.l0]; rw [if_neg (by omega)]
    · simp only [spec_OwesOf.j1]; rw [if_neg (by simp)]
  | m + 1, i => fun h => by
    have ih := specOwes_l0 B hb m (i + 1) (by omega)
    have l1 := specOwes_l1 B (owesV d i) (by have := B.n4; simp [owesV]; omega) i (by omega) _ (by unfold owesV at ih ⊢; rw [rmap_succ] at ih; exact ih) c.length 0 (by omega)
    refine Ev.step (f := fun k => (spec_BookOk.f k c d).bind fun t => spec_OwesOf.j1 k (owesV d i) (i : Int) t c d) (fun k => ?_) (Ev.bind hb (Ev.step (f := fun k => spec_OwesOf.l1 k (owesV d i) (i : Int) 0 0 c d) (fun k => ?_) l1))
    · simp only [spec_OwesOf.l0]; rw [if_pos (by omega)]
    · simp only [spec_OwesOf.j1]; rw [if_pos trivial]
theorem specOwesOf_f (c : List Int) (d : List (List Int)) (hb : Ev (fun k => spec_BookOk.f k c d) (okB c d)) : Ev (fun k => spec_OwesOf.f k c d) (if okB c d = true then owesV d c.length else []) := by
  refine Ev.congr (f := fun k => spec_OwesOf.l0 k [] 0 c d) (fun k => by unfold spec_OwesOf.f; rfl) ?_
  by_cases h : okB c d = true
  · rw [if_pos h]; rw [h] at hb
    exact specOwes_l0 (Bk.of h) hb c.length 0 (by omega)
  · rw [if_neg h]
    have hf : okB c d = false := by simpa using h
    rw [hf] at hb
    have j1 : Ev (fun k => spec_OwesOf.j1 k [] 0 false c d) [] := Ev.step (f := fun _ => some []) (fun k => by simp only [spec_OwesOf.j1]; rw [if_neg (by simp)]) (Ev.now _)
    refine Ev.step (fun k => by simp only [spec_OwesOf.l0]; rfl) (evIte (fun _ => Ev.bind hb j1) (fun _ => j1))

theorem owes_l1 {c : List Int} {d : List (List Int)} (B : Bk c d) (A R : List Int) (i : Nat) (hA : A.length = i) (hi : i < c.length) (D : Int) (res : List Int) (hn : Ev (fun k => impl_owes.l0 k (A ++ owesI d i :: R) d D ((i + 1 : Nat) : Int)) res) :
    ∀ m j, j + m = c.length → Ev (fun k => impl_owes.l1 k (A ++ sm ((d.getD i []).take j) :: R) (i : Int) d D (i : Int) (d.getD i []) ((d.getD i []).length : Int) (j : Int)) res
  | 0, j => fun h => by
    have hr := B.hr i hi
    refine Ev.step (fun k => ?_) hn
    simp only [impl_owes.l1]
    rw [if_neg (by omega), w64 (show i < 9 by have := B.n4; omega) (by omega), List.take_of_length_le (by omega)]; rfl
  | m + 1, j => fun h => by
    have hr := B.hr i hi
    have hb := B.row_take hi j
    have he := B.ent (i := i) (j := j) hi (by omega)
    have w : wrap64 (sm ((d.getD i []).take j) + (d.getD i []).getD j 0) = sm ((d.getD i []).take (j + 1)) := by
      rw [sm_take _ _ (by omega)]; unfold wrap64; omega
    refine Ev.step (fun k => ?_) (owes_l1 B A R i hA hi D res hn m (j + 1) (by omega))
    simp only [impl_owes.l1]
    rw [rd_nat, rd_nat, if_pos (by omega), if_pos (by omega), if_pos (by omega), if_pos (by omega), if_pos (by simp; omega), Int.toNat_natCast, mid_get _ _ _ _ hA, mid_set _ _ _ _ _ hA, w, w64 (show j < 9 by have := B.n4; omega) (by omega)]
theorem owes_l0 {c : List Int} {d : List (List Int)} (B : Bk c d) :
    ∀ m i, i + m = c.length → Ev (fun k => impl_owes.l0 k (owesV d i ++ List.replicate m 0) d (d.length : Int) (i : Int)) (owesV d c.length)
  | 0, i => fun h => by
    have hi : i = c.length := by omega
    subst hi
    refine Ev.step (f := fun _ => some (owesV d c.length)) (fun k => ?_) (Ev.now _)
    simp only [impl_owes.l0]; rw [if_neg (by rw [B.hd]; omega)]; simp
  | m + 1, i => fun h => by
    have ih := owes_l0 B m (i + 1) (by omega)
    have e : owesV d (i + 1) ++ List.replicate m 0 = owesV d i ++ owesI d i :: List.replicate m 0 := by unfold owesV; rw [rmap_succ, List.append_assoc]; rfl
    rw [e] at ih
    have l1 := owes_l1 B (owesV d i) (List.replicate m 0) i (by simp [owesV]) (by omega) (d.length : Int) _ ih c.length 0 (by omega)
    refine Ev.step (fun k => ?_) l1
    simp only [impl_owes.l0]
    rw [if_pos (by rw [B.hd]; omega), if_pos (by omega), if_pos (by rw [B.hd]; omega), rdR_nat]; rfl
theorem owes_f {c : List Int} {d : List (List Int)} (B : Bk c d) : Ev (fun k => impl_owes.f k c d) (owesV d c.length) := by
  refine Ev.congr (fun k => ?_) (owes_l0 B c.length 0 (by omega))
  have := B.n4
  unfold impl_owes.f
  rw [if_pos (by omega), if_pos (by omega)]; rfl

def owedP (d : List (List Int)) (n i : Nat) : List Int := (List.range i).map (owedI d n)
theorem specOwed_l1 {c : List Int} {d : List (List Int)} (B : Bk c d) (acc : List Int) (ha : acc.length ≤ 4) (i : Nat) (hi : i < c.length) (res : List Int) (hn : Ev (fun k => spec_OwedOf.l0 k (acc ++ [owedI d c.length i]) ((i + 1 : Nat) : Int) c d) res) :
    ∀ m j, j + m = c.length → Ev (fun k => spec_OwedOf.l1 k acc (i : Int) (owedI d j i) (j : Int) c d) res
  | 0, j => fun h => by
    obtain rfl : j = c.length := by omega
    refine Ev.step (fun k => ?_) hn
    simp only [spec_OwedOf.l1]
    rw [if_neg (by omega), if_pos (by omega), w64 (show i < 9 by have := B.n4; omega) (by omega)]
  | m + 1, j => fun h => by
    have hb := B.owed_bound hi j (by omega)
    have h4 := B.n4
    have he := B.ent (i := j) (j := i) (by omega) hi
    have w : wrap64 (owedI d j i + (d.getD j []).getD i 0) = owedI d (j + 1) i := by
      rw [owedI_succ d j i (by rw [B.hd]; omega)]; unfold wrap64; omega
    refine Ev.step (fun k => ?_) (specOwed_l1 B acc ha i hi res hn m (j + 1) (by omega))
    simp only [spec_OwedOf.l1]
    rw [rdR_nat, rd_nat, if_pos (by omega), if_pos (by omega), if_pos (by rw [B.hd]; omega), if_pos (by omega), if_pos (by rw [B.hr j (by omega)]; omega), w, w64 (show j < 9 by omega) (by omega)]
theorem specOwed_l0 {c : List Int} {d : List (List Int)} (B : Bk c d) (hb : Ev (fun k => spec_BookOk.f k c d) true) :
    ∀ m i, i + m = c.length → Ev (fun k => spec_OwedOf.l0 k (owedP d c.length i) (i : Int) c d) (owedV d c.length)
  | 0, i => fun h => by
    have hi : i = c.length := by omega
    subst hi
    refine Ev.step (f := fun k => spec_OwedOf.j1 k (owedV d c.length) (c.length : Int) false c d) (fun k => ?_) (Ev.step (f := fun _ => some (owedV d c.length)) (fun k => ?_) (Ev.now _))
    · simp only [spec_OwedOf.l0]; rw [if_neg (by omega)]; rfl
    · simp only [spec_OwedOf.j1]; rw [if_neg (by simp)]
  | m + 1, i => fun h => by
    have ih := specOwed_l0 B hb m (i + 1) (by omega)
    have l1 := specOwed_l1 B (owedP d c.length i) (by have := B.n4; simp [owedP]; omega) i (by omega) _ (by unfold owedP at ih ⊢; rw [rmap_succ] at ih; exact ih) c.length 0 (by omega)
    refine Ev.step (f := fun k => (spec_BookOk.f k c d).bind fun t => spec_OwedOf.j1 k (owedP d c.length i) (i : Int) t c d) (fun k => ?_) (Ev.bind hb (Ev.step (f := fun k => spec_OwedOf.l1 k (owedP d c.length i) (i : Int) 0 0 c d) (fun k => ?_) l1))
    · simp only [spec_OwedOf.l0]; rw [if_pos (by omega)]
    · simp only [spec_OwedOf.j1]; rw [if_pos trivial]
theorem specOwedOf_f (c : List Int) (d : List (List Int)) (hb : Ev (fun k => spec_BookOk.f k c d) (okB c d)) : Ev (fun k => spec_OwedOf.f k c d) (if okB c d = true then owedV d c.length else []) := by
  refine Ev.congr (f := fun k => spec_OwedOf.l0 k [] 0 c d) (fun k => by unfold spec_OwedOf.f; rfl) ?_
  by_cases h : okB c d = true
  · rw [if_pos h]; rw [h] at hb
    exact specOwed_l0 (Bk.of h) hb c.length 0 (by omega)
  · rw [if_neg h]
    have hf : okB c d = false := by simpa using h
    rw [hf] at hb
    have j1 : Ev (fun k => spec_OwedOf.j1 k [] 0 false c d) [] := Ev.step (f := fun _ => some []) (fun k => by simp only [spec_OwedOf.j1]; rw [if_neg (by simp)]) (Ev.now _)
    refine Ev.step (fun k => by simp only [spec_OwedOf.l0]; rfl) (evIte (fun _ => Ev.bind hb j1) (fun _ => j1))

theorem owed_l1 {c : List Int} {d : List (List Int)} (B : Bk c d) (i : Nat) (hi : i < c.length) (D : Int) (res : List Int) (hn : Ev (fun k => impl_owed.l0 k ((List.range c.length).map (owedI d (i + 1))) d D ((i + 1 : Nat) : Int)) res) :
    ∀ m j, j + m = c.length → Ev (fun k => impl_owed.l1 k ((List.range c.length).map fun q => if q < j then owedI d (i + 1) q else owedI d i q) d D (i : Int) (d.getD i []) ((d.getD i []).length : Int) (j : Int)) res
  | 0, j => fun h => by
    have hr := B.hr i hi
    refine Ev.step (fun k => ?_) hn
    simp only [impl_owed.l1]
    rw [if_neg (by omega), w64 (show i < 9 by have := B.n4; omega) (by omega), rmap_congr (f := fun q => if q < j then owedI d (i + 1) q else owedI d i q) (g := owedI d (i + 1)) (fun q hq => if_pos (by omega))]
  | m + 1, j => fun h => by
    have hr := B.hr i hi
    have h4 := B.n4
    have hb := B.owed_bound (j := j) (by omega) i (by omega)
    have he := B.ent (i := i) (j := j) hi (by omega)
    have w : wrap64 (owedI d i j + (d.getD i []).getD j 0) = owedI d (i + 1) j := by
      rw [owedI_succ d i j (by rw [B.hd]; omega)]; unfold wrap64; omega
    refine Ev.step (fun k => ?_) (owed_l1 B i hi D res hn m (j + 1) (by omega))
    simp only [impl_owed.l1]
    rw [rd_nat, rd_nat, if_pos (by omega), if_pos (by omega), if_pos (by omega), if_pos (by simp; omega), Int.toNat_natCast, rmap_get _ _ _ (by omega), if_neg (by omega), w, rmap_set, w64 (show j < 9 by omega) (by omega)]
    congr 1
    refine rmap_congr fun q hq => ?_
    by_cases e : q = j
    · rw [if_pos e, if_pos (by omega), e]
    · rw [if_neg e]
      by_cases e2 : q < j
      · rw [if_pos e2, if_pos (by omega)]
      · rw [if_neg e2, if_neg (by omega)]
theorem owed_l0 {c : List Int} {d : List (List Int)} (B : Bk c d) :
    ∀ m i, i + m = c.length → Ev (fun k => impl_owed.l0 k ((List.range c.length).map (owedI d i)) d (d.length : Int) (i : Int)) (owedV d c.length)
  | 0, i => fun h => by
    have hi : i = c.length := by omega
    subst hi
    refine Ev.step (f := fun _ => some (owedV d c.length)) (fun k => ?_) (Ev.now _)
    simp only [impl_owed.l0]; rw [if_neg (by rw [B.hd]; omega)]; rfl
  | m + 1, i => fun h => by
    have ih := owed_l0 B m (i + 1) (by omega)
    have l1 := owed_l1 B i (by omega) (d.length : Int) _ ih c.length 0 (by omega)
    refine Ev.step (fun k => ?_) l1
    simp only [impl_owed.l0]
    rw [if_pos (by rw [B.hd]; omega), if_pos (by omega), if_pos (by rw [B.hd]; omega), rdR_nat, rmap_congr (f := fun q => if q < 0 then owedI d (i + 1) q else owedI d i q) (g := owedI d i) (fun q hq => if_neg (by omega))]; rfl
theorem owed_f {c : List Int} {d : List (List Int)} (B : Bk c d) : Ev (fun k => impl_owed.f k c d) (owedV d c.length) := by
  refine Ev.congr (fun k => ?_) (owed_l0 B c.length 0 (by omega))
  have := B.n4
  unfold impl_owed.f
  rw [if_pos (by omega), if_pos (by omega)]
  congr 1
  refine List.ext_getElem (by simp) fun j h1 h2 => ?_
  simp [owedI, sm]

theorem specNets_l0 {c : List Int} {d : List (List Int)} (B : Bk c d) :
    ∀ m i, i + m = c.length → Ev (fun k => spec_NetsOf.l0 k (owesV d c.length) (owedV d c.length) ((List.range i).map fun q => owedI d c.length q - owesI d q) (i : Int)) (netsV d c.length)
  | 0, i => fun h => by
    have hi : i = c.length := by omega
    subst hi
    refine Ev.step (f := fun _ => some (netsV d c.length)) (fun k => ?_) (Ev.now _)
    simp only [spec_NetsOf.l0]
    rw [if_neg (by simp [owesV])]; rfl
  | m + 1, i => fun h => by
    have h4 := B.n4
    have b1 := B.owes_bound (i := i) (by omega)
    have b2 := B.owed_bound (j := i) (by omega) c.length (by omega)
    have w : wrap64 (owedI d c.length i - owesI d i) = owedI d c.length i - owesI d i := by unfold wrap64; omega
    refine Ev.step (fun k => ?_) (specNets_l0 B m (i + 1) (by omega))
    simp only [spec_NetsOf.l0]
    rw [if_pos (by simp [owesV]; omega), if_pos (by omega), if_pos (by simp [owedV]; omega), if_pos (by simp; omega), rd_nat, rd_nat, show (owedV d c.length).getD i 0 = owedI d c.length i from rmap_get _ _ _ (by omega), show (owesV d c.length).getD i 0 = owesI d i from rmap_get _ _ _ (by omega), w, w64 (show i < 9 by omega) (by omega), rmap_succ]
theorem specNetsOf_f (c : List Int) (d : List (List Int)) (hb : Ev (fun k => spec_BookOk.f k c d) (okB c d)) : Ev (fun k => spec_NetsOf.f k c d) (if okB c d = true then netsV d c.length else []) := by
  refine Ev.congr (fun k => by unfold spec_NetsOf.f; rfl) (Ev.bind (specOwesOf_f c d hb) (Ev.bind (specOwedOf_f c d hb) ?_))
  by_cases h : okB c d = true
  · rw [if_pos h, if_pos h, if_pos h]
    exact specNets_l0 (Bk.of h) c.length 0 (by omega)
  · rw [if_neg h, if_neg h, if_neg h]
    refine Ev.step (f := fun _ => some []) (fun k => ?_) (Ev.now _)
    simp only [spec_NetsOf.l0]
    rw [if_neg (by simp)]
theorem nets_l0 {c : List Int} {d : List (List Int)} (B : Bk c d) :
    ∀ m i, i + m = c.length → Ev (fun k => impl_nets.l0 k ((List.range c.length).map fun q => if q < i then owedI d c.length q - owesI d q else owedI d c.length q) (owesV d c.length) (c.length : Int) (i : Int)) (netsV d c.length)
  | 0, i => fun h => by
    refine Ev.step (f := fun _ => some (netsV d c.length)) (fun k => ?_) (Ev.now _)
    simp only [impl_nets.l0]
    rw [if_neg (by omega), rmap_congr (f := fun q => if q < i then owedI d c.length q - owesI d q else owedI d c.length q) (g := fun q => owedI d c.length q - owesI d q) (fun q hq => if_pos (by omega))]; rfl
  | m + 1, i => fun h => by
    have h4 := B.n4
    have b1 := B.owes_bound (i := i) (by omega)
    have b2 := B.owed_bound (j := i) (by omega) c.length (by omega)
    have w : wrap64 (owedI d c.length i - owesI d i) = owedI d c.length i - owesI d i := by unfold wrap64; omega
    refine Ev.step (fun k => ?_) (nets_l0 B m (i + 1) (by omega))
    simp only [impl_nets.l0]
    rw [if_pos (by omega), if_pos (by omega), if_pos (by simp [owesV]; omega), if_pos (by simp; omega), rd_nat, rd_nat, Int.toNat_natCast, rmap_get _ _ _ (by omega), if_neg (by omega), show (owesV d c.length).getD i 0 = owesI d i from rmap_get _ _ _ (by omega), w, rmap_set, w64 (show i < 9 by omega) (by omega)]
    congr 1
    refine rmap_congr fun q hq => ?_
    by_cases e : q = i
    · rw [if_pos e, if_pos (by omega), e]
    · rw [if_neg e]
      by_cases e2 : q < i
      · rw [if_pos e2, if_pos (by omega)]
      · rw [if_neg e2, if_neg (by omega)]
theorem nets_f {c : List Int} {d : List (List Int)} (B : Bk c d) : Ev (fun k => impl_nets.f k c d) (netsV d c.length) := by
  refine Ev.congr (fun k => by unfold impl_nets.f; rfl) (Ev.bind (owed_f B) (Ev.bind (owes_f B) ?_))
  refine Ev.congr (fun k => ?_) (nets_l0 B c.length 0 (by omega))
  rw [rmap_congr (f := fun q => if q < 0 then owedI d c.length q - owesI d q else owedI d c.length q) (g := owedI d c.length) (fun q hq => if_neg (by omega)), show ((owesV d c.length).length : Int) = (c.length : Int) by simp [owesV]]; rfl

def vec (n : Nat) (f : Nat → Int) : List Int := (List.range n).map f
def mat (n : Nat) (R : Nat → Nat → Int) : List (List Int) := (List.range n).map fun p => vec n (R p)
def upd (f : Nat → Int) (i : Nat) (y : Int) : Nat → Int := fun p => if p = i then y else f p
def upd2 (R : Nat → Nat → Int) (i k : Nat) (y : Int) : Nat → Nat → Int := fun p => if p = i then upd (R p) k y else R p
theorem vec_len (n : Nat) (f : Nat → Int) : (vec n f).length = n := by simp [vec]
theorem mat_len (n : Nat) (R : Nat → Nat → Int) : (mat n R).length = n := by simp [mat]
theorem vec_set (n : Nat) (f : Nat → Int) (i : Nat) (y : Int) : (vec n f).set i y = vec n (upd f i y) := rmap_set f n i y
theorem vec_get (n : Nat) (f : Nat → Int) (i : Nat) (h : i < n) : (vec n f).getD i 0 = f i := rmap_get f n i h
theorem mat_get (n : Nat) (R : Nat → Nat → Int) (i : Nat) (h : i < n) : (mat n R).getD i [] = vec n (R i) := by
  unfold mat; rw [List.getD_eq_getElem?_getD, List.getElem?_map, List.getElem?_range h]; rfl
theorem mat_set (n : Nat) (R : Nat → Nat → Int) (i k : Nat) (y : Int) : (mat n R).set i (vec n (upd (R i) k y)) = mat n (upd2 R i k y) := by
  unfold mat
  rw [rmap_set]
  refine rmap_congr fun j _ => ?_
  unfold upd2
  by_cases e : j = i
  · subst e; rw [if_pos rfl, if_pos rfl]
  · rw [if_neg e, if_neg e]
theorem upd_at (f : Nat → Int) (i : Nat) (y : Int) : upd f i y i = y := if_pos rfl
theorem upd_ne (f : Nat → Int) (i : Nat) (y : Int) {p : Nat} (h : p ≠ i) : upd f i y p = f p := if_neg h
/-- The sum of n numbers. -/
def S (n : Nat) (f : Nat → Int) : Int := sm (vec n f)
theorem S_zero (f : Nat → Int) : S 0 f = 0 := by simp [S, vec, sm]
theorem S_succ (n : Nat) (f : Nat → Int) : S (n + 1) f = S n f + f n := by unfold S vec; rw [rmap_succ, sm_append]; simp [sm]
theorem S_congr {n : Nat} {f g : Nat → Int} (h : ∀ p, p < n → f p = g p) : S n f = S n g := by unfold S vec; rw [rmap_congr h]
theorem S_upd (f : Nat → Int) (i : Nat) (y : Int) : ∀ n, i < n → S n (upd f i y) = S n f - f i + y
  | 0, h => by omega
  | n + 1, h => by
    rw [S_succ, S_succ]
    by_cases e : i = n
    · subst e
      rw [S_congr (g := f) (fun p hp => upd_ne f i y (by omega)), upd_at]; omega
    · rw [S_upd f i y n (by omega), upd_ne f i y (fun h => e h.symm)]; omega
theorem S_nonneg {f : Nat → Int} : ∀ {n : Nat}, (∀ p, p < n → 0 ≤ f p) → 0 ≤ S n f ∧ ∀ p, p < n → f p ≤ S n f
  | 0, _ => ⟨by rw [S_zero]; omega, fun p hp => by omega⟩
  | n + 1, h => by
    obtain ⟨a, b⟩ := S_nonneg (n := n) fun p hp => h p (by omega)
    have c := h n (by omega)
    rw [S_succ]
    refine ⟨by omega, fun p hp => ?_⟩
    by_cases e : p = n
    · subst e; omega
    · have := b p (by omega); omega
theorem S_neg (n : Nat) (f : Nat → Int) : S n (fun p => -(f p)) = -(S n f) := by
  induction n with
  | zero => simp [S_zero]
  | succ n ih => rw [S_succ, S_succ, ih]; omega
theorem S_nonpos {f : Nat → Int} {n : Nat} (h : ∀ p, p < n → f p ≤ 0) : ∀ p, p < n → S n f ≤ f p := fun p hp => by
  have h1 := (S_nonneg (n := n) (f := fun p => -(f p)) (fun q hq => by have := h q hq; omega)).2 p hp
  rw [S_neg] at h1
  omega
/-- How far the settling has come: bank i, at bank k. -/
structure LB (n : Nat) (g : Nat → Int) (i k : Nat) (f : Nat → Int) (R : Nat → Nat → Int) : Prop where
  bal : ∀ p, p < n → g p = f p + S n (fun q => R q p) - S n (R p)
  sgn : ∀ p q, p < n → q < n → R p q ≠ 0 → g p < 0 ∧ 0 < g q ∧ 0 < R p q
  new : ∀ p q, p < n → q < n → (i < p ∨ p = i ∧ k ≤ q) → R p q = 0
  pos : ∀ p, p < n → 0 ≤ g p → 0 ≤ f p ∧ f p ≤ g p
  neg : ∀ p, p < n → g p ≤ 0 → g p ≤ f p ∧ f p ≤ 0
  done : ∀ p, p < i → p < n → 0 ≤ f p
  row : ∀ q, q < k → q < n → f i < 0 → f q ≤ 0
  tot : S n f = 0
theorem LB.start {n : Nat} {g : Nat → Int} (h : S n g = 0) : LB n g 0 0 g (fun _ _ => 0) := by
  have z : S n (fun _ => (0 : Int)) = 0 := by
    induction n with
    | zero => exact S_zero _
    | succ n ih => clear h ih; induction n with
      | zero => rw [S_succ, S_zero]; rfl
      | succ n ih => rw [S_succ, ih]; rfl
  exact ⟨fun p hp => by rw [z]; omega, fun p q _ _ h => absurd rfl h, fun _ _ _ _ _ => rfl, fun p _ h => ⟨h, Int.le_refl _⟩, fun p _ h => ⟨Int.le_refl _, h⟩, fun p h => by omega, fun q h => by omega, h⟩
theorem LB.skip {n : Nat} {g : Nat → Int} {i k : Nat} {f : Nat → Int} {R : Nat → Nat → Int} (h : LB n g i k f R) (hs : f k ≤ 0) : LB n g i (k + 1) f R :=
  ⟨h.bal, h.sgn, fun p q hp hq hn => h.new p q hp hq (by omega), h.pos, h.neg, h.done, fun q hq hn hf => by
    by_cases e : q = k
    · subst e; exact hs
    · exact h.row q (by omega) hn hf, h.tot⟩
theorem LB.next {n : Nat} {g : Nat → Int} {i k : Nat} {f : Nat → Int} {R : Nat → Nat → Int} (h : LB n g i k f R) (hi : i < n) (hs : 0 ≤ f i ∨ n ≤ k) : LB n g (i + 1) 0 f R := by
  refine ⟨h.bal, h.sgn, fun p q hp hq hn => h.new p q hp hq (by omega), h.pos, h.neg, fun p hp hn => ?_, fun q hq => by omega, h.tot⟩
  by_cases e : p = i
  · subst e
    rcases hs with hs | hs
    · exact hs
    · by_cases h0 : f p < 0
      · have h1 := S_nonpos (n := n) (f := f) (fun q hq => h.row q (by omega) hq h0) p hn
        rw [h.tot] at h1
        omega
      · omega
  · exact h.done p (by omega) hn
theorem LB.step {n : Nat} {g : Nat → Int} {i k : Nat} {f : Nat → Int} {R : Nat → Nat → Int} (h : LB n g i k f R) (hi : i < n) (hk : k < n) (h1 : f i < 0) (h2 : 0 < f k) {m : Int} (hm : m = mn (-(f i)) (f k)) :
    LB n g i (k + 1) (upd (upd f i (f i + m)) k (f k - m)) (upd2 R i k m) := by
  have m0 : 0 < m ∧ m ≤ -(f i) ∧ m ≤ f k ∧ (m = -(f i) ∨ m = f k) := by subst hm; unfold mn; split <;> omega
  clear hm
  have hne : i ≠ k := fun e => by subst e; omega
  have gi : g i < 0 := by
    by_cases e : 0 ≤ g i
    · have := h.pos i hi e; omega
    · omega
  have gk : 0 < g k := by
    by_cases e : g k ≤ 0
    · have := h.neg k hk e; omega
    · omega
  have f_k : upd (upd f i (f i + m)) k (f k - m) k = f k - m := upd_at _ _ _
  have f_i : upd (upd f i (f i + m)) k (f k - m) i = f i + m := by rw [upd_ne _ _ _ hne, upd_at]
  have f_o : ∀ p, p ≠ i → p ≠ k → upd (upd f i (f i + m)) k (f k - m) p = f p := fun p a b => by rw [upd_ne _ _ _ b, upd_ne _ _ _ a]
  have r_ik : upd2 R i k m i k = m := by unfold upd2; rw [if_pos rfl, upd_at]
  have r_o : ∀ p q, ¬ (p = i ∧ q = k) → upd2 R i k m p q = R p q := fun p q a => by
    unfold upd2
    by_cases e : p = i
    · rw [if_pos e, upd_ne _ _ _ (fun e2 => a ⟨e, e2⟩)]
    · rw [if_neg e]
  have R0 : R i k = 0 := h.new i k hi hk (by omega)
  have row_i : S n (upd2 R i k m i) = S n (R i) + m := by
    have : upd2 R i k m i = upd (R i) k m := by unfold upd2; rw [if_pos rfl]
    rw [this, S_upd _ _ _ n hk, R0]; omega
  have row_o : ∀ p, p ≠ i → S n (upd2 R i k m p) = S n (R p) := fun p a => S_congr fun q _ => r_o p q (fun e => a e.1)
  have col_k : S n (fun q => upd2 R i k m q k) = S n (fun q => R q k) + m := by
    have : S n (fun q => upd2 R i k m q k) = S n (upd (fun q => R q k) i m) := S_congr fun q _ => by
      by_cases e : q = i
      · subst e; rw [r_ik, upd_at]
      · rw [r_o q k (fun a => e a.1), upd_ne _ _ _ e]
    rw [this, S_upd _ _ _ n hi, R0]; omega
  have col_o : ∀ p, p ≠ k → S n (fun q => upd2 R i k m q p) = S n (fun q => R q p) := fun p a => S_congr fun q _ => r_o q p (fun e => a e.2)
  refine ⟨fun p hp => ?_, fun p q hp hq hz => ?_, fun p q hp hq hn => ?_, fun p hp hg => ?_, fun p hp hg => ?_, fun p hp hn => ?_, fun q hq hn hf => ?_, ?_⟩
  · have hb := h.bal p hp
    by_cases e1 : p = i
    · subst e1
      rw [f_i, row_i, col_o p hne]; omega
    · by_cases e2 : p = k
      · subst e2
        rw [f_k, row_o p e1, col_k]; omega
      · rw [f_o p e1 e2, row_o p e1, col_o p e2]; omega
  · by_cases e : p = i ∧ q = k
    · obtain ⟨rfl, rfl⟩ := e
      rw [r_ik]
      exact ⟨gi, gk, m0.1⟩
    · rw [r_o p q e] at hz ⊢
      exact h.sgn p q hp hq hz
  · rw [r_o p q (by omega)]
    exact h.new p q hp hq (by omega)
  · have := h.pos p hp hg
    by_cases e1 : p = i
    · subst e1; omega
    · by_cases e2 : p = k
      · subst e2; rw [f_k]; omega
      · rw [f_o p e1 e2]; exact this
  · have := h.neg p hp hg
    by_cases e1 : p = i
    · subst e1; rw [f_i]; omega
    · by_cases e2 : p = k
      · subst e2; omega
      · rw [f_o p e1 e2]; exact this
  · have := h.done p hp hn
    by_cases e2 : p = k
    · subst e2; rw [f_k]; omega
    · rw [f_o p (by omega) e2]; exact this
  · rw [f_i] at hf
    by_cases e2 : q = k
    · subst e2; rw [f_k]; omega
    · by_cases e1 : q = i
      · subst e1; rw [f_i]; omega
      · rw [f_o q e1 e2]; exact h.row q (by omega) hn (by omega)
  · rw [S_upd _ _ _ n hk, S_upd _ _ _ n hi, upd_ne _ _ _ (fun e => hne e.symm), h.tot]; omega
/-- What is settled in the end. -/
structure Done (n : Nat) (g : Nat → Int) (R : Nat → Nat → Int) : Prop where
  bal : ∀ p, p < n → g p = S n (fun q => R q p) - S n (R p)
  sgn : ∀ p q, p < n → q < n → R p q ≠ 0 → g p < 0 ∧ 0 < g q ∧ 0 < R p q
theorem LB.fin {n : Nat} {g : Nat → Int} {k : Nat} {f : Nat → Int} {R : Nat → Nat → Int} (h : LB n g n k f R) : Done n g R := by
  refine ⟨fun p hp => ?_, h.sgn⟩
  have h1 := (S_nonneg (n := n) (f := f) (fun q hq => h.done q hq hq)).2 p hp
  have h2 := h.done p hp hp
  have h3 := h.bal p hp
  rw [h.tot] at h1
  omega
theorem Done.nn {n : Nat} {g : Nat → Int} {R : Nat → Nat → Int} (h : Done n g R) (p q : Nat) (hp : p < n) (hq : q < n) : 0 ≤ R p q := by
  by_cases e : R p q = 0
  · omega
  · have := (h.sgn p q hp hq e).2.2; omega
/-- A bank owes what it owes more than it is owed; or it is owed. -/
theorem Done.owes {n : Nat} {g : Nat → Int} {R : Nat → Nat → Int} (h : Done n g R) (p : Nat) (hp : p < n) :
    (S n (R p) = mx (-(g p)) 0 ∧ S n (fun q => R q p) = mx (g p) 0) := by
  have z : ∀ f : Nat → Int, (∀ q, q < n → f q = 0) → S n f = 0 := fun f hf => by
    rw [S_congr (g := fun _ => 0) hf]
    clear hf
    have : ∀ n, S n (fun _ => (0 : Int)) = 0 := fun n => by
      induction n with
      | zero => exact S_zero _
      | succ n ih => rw [S_succ, ih]; rfl
    exact this n
  have hb := h.bal p hp
  have h1 := (S_nonneg (n := n) (f := R p) (fun q hq => h.nn p q hp hq)).1
  have h2 := (S_nonneg (n := n) (f := fun q => R q p) (fun q hq => h.nn q p hq hp)).1
  by_cases e : g p < 0
  · have : S n (fun q => R q p) = 0 := z _ fun q hq => by
      by_cases e2 : R q p = 0
      · exact e2
      · have := (h.sgn q p hq hp e2).2.1; omega
    unfold mx; constructor <;> split <;> omega
  · have : S n (R p) = 0 := z _ fun q hq => by
      by_cases e2 : R p q = 0
      · exact e2
      · have := (h.sgn p q hp hq e2).1; omega
    unfold mx; constructor <;> split <;> omega

theorem LB.small {n : Nat} {g : Nat → Int} {i k : Nat} {f : Nat → Int} {R : Nat → Nat → Int} (h : LB n g i k f R) (hg : ∀ p, p < n → -36 ≤ g p ∧ g p ≤ 36) (p : Nat) (hp : p < n) : -36 ≤ f p ∧ f p ≤ 36 := by
  have a := hg p hp
  by_cases e : 0 ≤ g p
  · have := h.pos p hp e; omega
  · have := h.neg p hp (by omega); omega
theorem rd_vec (n : Nat) (f : Nat → Int) (i : Nat) (h : i < n) : rd (vec n f) (i : Int) = f i := by rw [rd_nat, vec_get n f i h]
theorem rd_mat (n : Nat) (R : Nat → Nat → Int) (i : Nat) (h : i < n) : rd_L1 (mat n R) (i : Int) = vec n (R i) := by
  unfold rd_L1; rw [Int.toNat_natCast, mat_get n R i h]
theorem lbImpl_skip {n : Nat} (hn : n ≤ 4) {f : Nat → Int} {R : Nat → Nat → Int} {i : Nat} (hi : i < n) (h0 : 0 ≤ f i) {r : List (List Int)} (e : Ev (fun j => impl_LeastBook.l1 j (vec n f) (mat n R) (n : Int) ((i + 1 : Nat) : Int)) r) :
    ∀ m k, k + m = n → Ev (fun j => impl_LeastBook.l2 j (vec n f) (mat n R) (i : Int) (n : Int) (i : Int) (n : Int) (k : Int)) r
  | 0, k, hk => Ev.step (fun j => by rw [impl_LeastBook.l2]) (evNeg (by omega) (by rw [w64 hi (by omega)]; exact e))
  | m + 1, k, hk => by
    have l1 := vec_len n f
    refine Ev.step (fun j => by rw [impl_LeastBook.l2]) (evPos (by omega) (evPos (by omega) (evPos (by omega) (evNeg (by rw [rd_vec n f i hi]; omega) ?_))))
    rw [w64 (show k < n by omega) (by omega)]
    exact lbImpl_skip hn hi h0 e m (k + 1) (by omega)
theorem lbImpl_put {n : Nat} {f : Nat → Int} {R : Nat → Nat → Int} {i k : Nat} (hi : (i : Int) < (n : Int)) (hk : (k : Int) < (n : Int)) (h1 : f i < 0) (h2 : 0 < f k) {f' : List Int} {R' : List (List Int)} {k' : Int} {r : List (List Int)}
    (a1 : rd (vec n f) (i : Int) = f i) (a2 : rd (vec n f) (k : Int) = f k) (a9 : rd_L1 (mat n R) (i : Int) = vec n (R i)) (z1 : (0 : Int) ≤ (i : Int)) (z2 : (0 : Int) ≤ (k : Int))
    (hf : ((vec n f).set (i : Int).toNat (wrap64 (rd (vec n f) (i : Int) + mn (wrap64 (-(rd (vec n f) (i : Int)))) (rd (vec n f) (k : Int))))).set (k : Int).toNat (wrap64 (rd ((vec n f).set (i : Int).toNat (wrap64 (rd (vec n f) (i : Int) + mn (wrap64 (-(rd (vec n f) (i : Int)))) (rd (vec n f) (k : Int))))) (k : Int) - mn (wrap64 (-(rd (vec n f) (i : Int)))) (rd (vec n f) (k : Int)))) = f')
    (hR : (mat n R).set (i : Int).toNat ((rd_L1 (mat n R) (i : Int)).set (k : Int).toNat (mn (wrap64 (-(rd (vec n f) (i : Int)))) (rd (vec n f) (k : Int)))) = R') (hw : wrap64 ((k : Int) + 1) = k')
    (e : Ev (fun j => impl_LeastBook.l2 j f' R' (i : Int) (n : Int) (i : Int) (n : Int) k') r) : Ev (fun j => impl_LeastBook.l2 j (vec n f) (mat n R) (i : Int) (n : Int) (i : Int) (n : Int) (k : Int)) r := by
  subst hf; subst hR; subst hw
  have t1 : (i : Int) < ((vec n f).length : Int) := by rw [vec_len]; exact hi
  have t2 : (k : Int) < ((vec n f).length : Int) := by rw [vec_len]; exact hk
  have t3 : (i : Int) < ((mat n R).length : Int) := by rw [mat_len]; exact hi
  have t4 : (k : Int) < ((rd_L1 (mat n R) (i : Int)).length : Int) := by rw [a9, vec_len]; exact hk
  have t5 : rd (vec n f) (i : Int) < 0 := by rw [a1]; exact h1
  have t6 : rd (vec n f) (k : Int) > 0 := by rw [a2]; exact h2
  refine Ev.step (fun j => by rw [impl_LeastBook.l2]) ?_
  refine evPos hk ?_
  refine evPos z1 ?_
  refine evPos t1 ?_
  refine evPos t5 ?_
  refine evPos z2 ?_
  refine evPos t2 ?_
  refine evPos t6 ?_
  refine evPos t3 ?_
  refine evPos t4 ?_
  exact e
theorem lbImpl_pass {n : Nat} {f : Nat → Int} {R : Nat → Nat → Int} {i k : Nat} (hi : (i : Int) < (n : Int)) (hk : (k : Int) < (n : Int)) (h1 : f i < 0) (h2 : ¬ 0 < f k)
    (a1 : rd (vec n f) (i : Int) = f i) (a2 : rd (vec n f) (k : Int) = f k) (z1 : (0 : Int) ≤ (i : Int)) (z2 : (0 : Int) ≤ (k : Int)) {k' : Int} {r : List (List Int)} (hw : wrap64 ((k : Int) + 1) = k')
    (e : Ev (fun j => impl_LeastBook.l2 j (vec n f) (mat n R) (i : Int) (n : Int) (i : Int) (n : Int) k') r) : Ev (fun j => impl_LeastBook.l2 j (vec n f) (mat n R) (i : Int) (n : Int) (i : Int) (n : Int) (k : Int)) r := by
  subst hw
  have t1 : (i : Int) < ((vec n f).length : Int) := by rw [vec_len]; exact hi
  have t2 : (k : Int) < ((vec n f).length : Int) := by rw [vec_len]; exact hk
  have t5 : rd (vec n f) (i : Int) < 0 := by rw [a1]; exact h1
  have t6 : ¬ (rd (vec n f) (k : Int) > 0) := by rw [a2]; exact h2
  refine Ev.step (fun j => by rw [impl_LeastBook.l2]) ?_
  exact evPos hk (evPos z1 (evPos t1 (evPos t5 (evPos z2 (evPos t2 (evNeg t6 e))))))
theorem lbSpec_put {n : Nat} {f : Nat → Int} {R : Nat → Nat → Int} {i k : Nat} (hi : (i : Int) < (n : Int)) (hk : (k : Int) < (n : Int)) (h1 : f i < 0) (h2 : 0 < f k) {f' : List Int} {R' : List (List Int)} {k' : Int} {r : List (List Int)}
    (a1 : rd (vec n f) (i : Int) = f i) (a2 : rd (vec n f) (k : Int) = f k) (a9 : rd_L1 (mat n R) (i : Int) = vec n (R i)) (z1 : (0 : Int) ≤ (i : Int)) (z2 : (0 : Int) ≤ (k : Int))
    (hf : ((vec n f).set (i : Int).toNat (wrap64 (rd (vec n f) (i : Int) + mn (wrap64 (-(rd (vec n f) (i : Int)))) (rd (vec n f) (k : Int))))).set (k : Int).toNat (wrap64 (rd ((vec n f).set (i : Int).toNat (wrap64 (rd (vec n f) (i : Int) + mn (wrap64 (-(rd (vec n f) (i : Int)))) (rd (vec n f) (k : Int))))) (k : Int) - mn (wrap64 (-(rd (vec n f) (i : Int)))) (rd (vec n f) (k : Int)))) = f')
    (hR : (mat n R).set (i : Int).toNat ((rd_L1 (mat n R) (i : Int)).set (k : Int).toNat (mn (wrap64 (-(rd (vec n f) (i : Int)))) (rd (vec n f) (k : Int)))) = R') (hw : wrap64 ((k : Int) + 1) = k')
    (e : Ev (fun j => spec_LeastBook.l2 j R' f' (i : Int) k') r) : Ev (fun j => spec_LeastBook.l2 j (mat n R) (vec n f) (i : Int) (k : Int)) r := by
  subst hf; subst hR; subst hw
  have t1 : (i : Int) < ((vec n f).length : Int) := by rw [vec_len]; exact hi
  have t2 : (k : Int) < ((vec n f).length : Int) := by rw [vec_len]; exact hk
  have t3 : (i : Int) < ((mat n R).length : Int) := by rw [mat_len]; exact hi
  have t4 : (k : Int) < ((rd_L1 (mat n R) (i : Int)).length : Int) := by rw [a9, vec_len]; exact hk
  have t5 : decide (rd (vec n f) (i : Int) < 0) = true := decide_eq_true (by rw [a1]; exact h1)
  have t6 : ¬ (rd (vec n f) (k : Int) ≤ 0) := by rw [a2]; omega
  refine Ev.step (fun j => by rw [spec_LeastBook.l2]) (evPos t2 (evPos z1 (evPos t1 ?_)))
  refine Ev.step (fun j => by rw [spec_LeastBook.j3]) ?_
  refine evPos t5 ?_
  refine evPos z2 ?_
  refine evPos t2 ?_
  refine evNeg t6 ?_
  refine evPos z1 ?_
  refine evPos t1 ?_
  refine evPos t3 ?_
  refine evPos t4 ?_
  exact e
theorem lbSpec_pass {n : Nat} {f : Nat → Int} {R : Nat → Nat → Int} {i k : Nat} (hi : (i : Int) < (n : Int)) (hk : (k : Int) < (n : Int)) (h1 : f i < 0) (h2 : ¬ 0 < f k)
    (a1 : rd (vec n f) (i : Int) = f i) (a2 : rd (vec n f) (k : Int) = f k) (z1 : (0 : Int) ≤ (i : Int)) (z2 : (0 : Int) ≤ (k : Int)) {k' : Int} {r : List (List Int)} (hw : wrap64 ((k : Int) + 1) = k')
    (e : Ev (fun j => spec_LeastBook.l2 j (mat n R) (vec n f) (i : Int) k') r) : Ev (fun j => spec_LeastBook.l2 j (mat n R) (vec n f) (i : Int) (k : Int)) r := by
  subst hw
  have t1 : (i : Int) < ((vec n f).length : Int) := by rw [vec_len]; exact hi
  have t2 : (k : Int) < ((vec n f).length : Int) := by rw [vec_len]; exact hk
  have t5 : decide (rd (vec n f) (i : Int) < 0) = true := decide_eq_true (by rw [a1]; exact h1)
  have t6 : rd (vec n f) (k : Int) ≤ 0 := by rw [a2]; omega
  refine Ev.step (fun j => by rw [spec_LeastBook.l2]) (evPos t2 (evPos z1 (evPos t1 ?_)))
  refine Ev.step (fun j => by rw [spec_LeastBook.j3]) ?_
  exact evPos t5 (evPos z2 (evPos t2 (evPos t6 e)))
theorem lbSpec_out {n : Nat} {f : Nat → Int} {R : Nat → Nat → Int} {i k : Nat} (hi : (i : Int) < (n : Int)) (hk : (k : Int) < (n : Int)) (h1 : ¬ f i < 0)
    (a1 : rd (vec n f) (i : Int) = f i) (z1 : (0 : Int) ≤ (i : Int)) {i' : Int} {r : List (List Int)} (hw : wrap64 ((i : Int) + 1) = i')
    (e : Ev (fun j => spec_LeastBook.l1 j (mat n R) (vec n f) i') r) : Ev (fun j => spec_LeastBook.l2 j (mat n R) (vec n f) (i : Int) (k : Int)) r := by
  subst hw
  have t1 : (i : Int) < ((vec n f).length : Int) := by rw [vec_len]; exact hi
  have t2 : (k : Int) < ((vec n f).length : Int) := by rw [vec_len]; exact hk
  have t5 : ¬ (decide (rd (vec n f) (i : Int) < 0) = true) := by rw [a1, decide_eq_true_iff]; exact h1
  refine Ev.step (fun j => by rw [spec_LeastBook.l2]) (evPos t2 (evPos z1 (evPos t1 ?_)))
  refine Ev.step (fun j => by rw [spec_LeastBook.j3]) ?_
  exact evNeg t5 e
theorem lb_put {n : Nat} {f : Nat → Int} {R : Nat → Nat → Int} {i k : Nat} (hi : i < n) (hk : k < n) (hne : i ≠ k) (b1 : -36 ≤ f i ∧ f i < 0) (b2 : 0 < f k ∧ f k ≤ 36) :
    ((vec n f).set (i : Int).toNat (wrap64 (rd (vec n f) (i : Int) + mn (wrap64 (-(rd (vec n f) (i : Int)))) (rd (vec n f) (k : Int))))).set (k : Int).toNat (wrap64 (rd ((vec n f).set (i : Int).toNat (wrap64 (rd (vec n f) (i : Int) + mn (wrap64 (-(rd (vec n f) (i : Int)))) (rd (vec n f) (k : Int))))) (k : Int) - mn (wrap64 (-(rd (vec n f) (i : Int)))) (rd (vec n f) (k : Int)))) = vec n (upd (upd f i (f i + mn (-(f i)) (f k))) k (f k - mn (-(f i)) (f k)))
    ∧ (mat n R).set (i : Int).toNat ((rd_L1 (mat n R) (i : Int)).set (k : Int).toNat (mn (wrap64 (-(rd (vec n f) (i : Int)))) (rd (vec n f) (k : Int)))) = mat n (upd2 R i k (mn (-(f i)) (f k))) := by
  rw [rd_vec n f i hi, rd_vec n f k hk, rd_mat n R i hi, Int.toNat_natCast, Int.toNat_natCast]
  have a3 : wrap64 (-(f i)) = -(f i) := by unfold wrap64; omega
  rw [a3]
  have m0 : 0 ≤ mn (-(f i)) (f k) ∧ mn (-(f i)) (f k) ≤ 36 := by unfold mn; split <;> omega
  generalize mn (-(f i)) (f k) = m at m0 ⊢
  have a4 : wrap64 (f i + m) = f i + m := by unfold wrap64; omega
  have a7 : wrap64 (f k - m) = f k - m := by unfold wrap64; omega
  rw [a4, vec_set, rd_vec _ _ _ hk, upd_ne _ _ _ (fun e => hne e.symm), a7, vec_set, vec_set, mat_set]
  exact ⟨rfl, rfl⟩
theorem lb_row {n : Nat} (hn : n ≤ 4) {g : Nat → Int} (hg : ∀ p, p < n → -36 ≤ g p ∧ g p ≤ 36) {i : Nat} (hi : i < n)
    (go : ∀ f R, LB n g (i + 1) 0 f R → ∃ M, Ev (fun j => impl_LeastBook.l1 j (vec n f) (mat n R) (n : Int) ((i + 1 : Nat) : Int)) (mat n M) ∧ Ev (fun j => spec_LeastBook.l1 j (mat n R) (vec n f) ((i + 1 : Nat) : Int)) (mat n M) ∧ Done n g M) :
    ∀ m k f R, k + m = n → LB n g i k f R → ∃ M, Ev (fun j => impl_LeastBook.l2 j (vec n f) (mat n R) (i : Int) (n : Int) (i : Int) (n : Int) (k : Int)) (mat n M) ∧ Ev (fun j => spec_LeastBook.l2 j (mat n R) (vec n f) (i : Int) (k : Int)) (mat n M) ∧ Done n g M
  | 0, k, f, R, hk, h => by
    have l1 := vec_len n f
    obtain ⟨M, e1, e2, dn⟩ := go f R (h.next hi (.inr (by omega)))
    have wi := w64 hi (by omega)
    have t : ¬ ((k : Int) < (n : Int)) := by omega
    have t' : ¬ ((k : Int) < ((vec n f).length : Int)) := by rw [l1]; exact t
    refine ⟨M, Ev.step (fun j => by rw [impl_LeastBook.l2]) (evNeg t (by rw [wi]; exact e1)), ?_, dn⟩
    refine Ev.step (fun j => by rw [spec_LeastBook.l2]) (evNeg t' ?_)
    exact Ev.step (fun j => by rw [spec_LeastBook.j3]) (evNeg (by simp) (by rw [wi]; exact e2))
  | m + 1, k, f, R, hk, h => by
    have hkn : k < n := by omega
    have a1 := rd_vec n f i hi
    have a2 := rd_vec n f k hkn
    have a9 := rd_mat n R i hi
    have wk := w64 hkn (by omega)
    have wi := w64 hi (by omega)
    have q1 : (i : Int) < (n : Int) := by omega
    have q2 : (k : Int) < (n : Int) := by omega
    have z1 : (0 : Int) ≤ (i : Int) := by omega
    have z2 : (0 : Int) ≤ (k : Int) := by omega
    by_cases h1 : f i < 0
    · by_cases h2 : 0 < f k
      · obtain ⟨M, e1, e2, dn⟩ := lb_row hn hg hi go m (k + 1) _ _ (by omega) (h.step hi hkn h1 h2 rfl)
        have b1 := h.small hg i hi
        have b2 := h.small hg k hkn
        obtain ⟨p1, p2⟩ := lb_put (R := R) hi hkn (fun e => by subst e; omega) ⟨b1.1, h1⟩ ⟨h2, b2.2⟩
        exact ⟨M, lbImpl_put q1 q2 h1 h2 a1 a2 a9 z1 z2 p1 p2 wk e1, lbSpec_put q1 q2 h1 h2 a1 a2 a9 z1 z2 p1 p2 wk e2, dn⟩
      · obtain ⟨M, e1, e2, dn⟩ := lb_row hn hg hi go m (k + 1) f R (by omega) (h.skip (by omega))
        exact ⟨M, lbImpl_pass q1 q2 h1 h2 a1 a2 z1 z2 wk e1, lbSpec_pass q1 q2 h1 h2 a1 a2 z1 z2 wk e2, dn⟩
    · obtain ⟨M, e1, e2, dn⟩ := go f R (h.next hi (.inl (by omega)))
      exact ⟨M, lbImpl_skip hn hi (by omega) e1 (m + 1) k hk, lbSpec_out q1 q2 h1 a1 z1 wi e2, dn⟩
theorem lb_rows {n : Nat} (hn : n ≤ 4) {g : Nat → Int} (hg : ∀ p, p < n → -36 ≤ g p ∧ g p ≤ 36) :
    ∀ m i f R, i + m = n → LB n g i 0 f R → ∃ M, Ev (fun j => impl_LeastBook.l1 j (vec n f) (mat n R) (n : Int) (i : Int)) (mat n M) ∧ Ev (fun j => spec_LeastBook.l1 j (mat n R) (vec n f) (i : Int)) (mat n M) ∧ Done n g M
  | 0, i, f, R, hi, h => by
    have l1 := vec_len n f
    obtain rfl : i = n := by omega
    exact ⟨R, Ev.step (fun j => by rw [impl_LeastBook.l1]) (evNeg (by omega) (Ev.now _)), Ev.step (fun j => by rw [spec_LeastBook.l1]) (evNeg (by omega) (Ev.now _)), h.fin⟩
  | m + 1, i, f, R, hi, h => by
    have l1 := vec_len n f
    obtain ⟨M, e1, e2, dn⟩ := lb_row hn hg (i := i) (by omega) (fun f R h => lb_rows hn hg m (i + 1) f R (by omega) h) n 0 f R (by omega) h
    refine ⟨M, Ev.step (fun j => by rw [impl_LeastBook.l1]) (evPos (by omega) (by rw [l1]; exact e1)), Ev.step (f := fun j => spec_LeastBook.l2 j (mat n R) (vec n f) (i : Int) 0) (fun j => by rw [spec_LeastBook.l1, if_pos (show (i : Int) < ((vec n f).length : Int) by rw [l1]; omega)]) e2, dn⟩
theorem rep_vec (n : Nat) : List.replicate n (0 : Int) = vec n (fun _ => 0) := by unfold vec; simp [List.map_const']
theorem lbImpl_l0 {n : Nat} (hn : n ≤ 4) {g : Nat → Int} {r : List (List Int)} (e : Ev (fun j => impl_LeastBook.l1 j (vec n g) (mat n (fun _ _ => 0)) (n : Int) 0) r) :
    ∀ m i, i + m = n → Ev (fun j => impl_LeastBook.l0 j (vec n g) ((List.range i).map fun _ => vec n (fun _ => 0)) (n : Int) (i : Int)) r
  | 0, i, hi => by
    have l1 := vec_len n g
    obtain rfl : i = n := by omega
    exact Ev.step (fun j => by rw [impl_LeastBook.l0]) (evNeg (by omega) (by rw [l1]; exact e))
  | m + 1, i, hi => by
    have l1 := vec_len n g
    refine Ev.step (fun j => by rw [impl_LeastBook.l0]) (evPos (by omega) (evPos (by omega) (evPos (by rw [l1]; omega) (evPos (by simp; omega) ?_))))
    rw [l1, Int.toNat_natCast, rep_vec, ← rmap_succ (fun _ => vec n (fun _ => 0)) i, w64 (show i < n by omega) (by omega)]
    exact lbImpl_l0 hn e m (i + 1) (by omega)
theorem lbSpec_l0 {n : Nat} (hn : n ≤ 4) {g : Nat → Int} {r : List (List Int)} (e : Ev (fun j => spec_LeastBook.l1 j (mat n (fun _ _ => 0)) (vec n g) 0) r) :
    ∀ m i, i + m = n → Ev (fun j => spec_LeastBook.l0 j ((List.range i).map fun _ => vec n (fun _ => 0)) (vec n g) (i : Int)) r
  | 0, i, hi => by
    have l1 := vec_len n g
    obtain rfl : i = n := by omega
    have t : ¬ ((i : Int) < ((vec i g).length : Int)) := by rw [l1]; omega
    exact Ev.step (f := fun j => spec_LeastBook.l1 j (mat i (fun _ _ => 0)) (vec i g) 0) (fun j => by rw [spec_LeastBook.l0, if_neg t]; rfl) e
  | m + 1, i, hi => by
    have l1 := vec_len n g
    refine Ev.step (fun j => by rw [spec_LeastBook.l0]) (evPos (by omega) (evPos (by omega) (evPos (by rw [l1]; omega) (evPos (by simp; omega) ?_))))
    rw [l1, Int.toNat_natCast, rep_vec, ← rmap_succ (fun _ => vec n (fun _ => 0)) i, w64 (show i < n by omega) (by omega)]
    exact lbSpec_l0 hn e m (i + 1) (by omega)
def netG (d : List (List Int)) (n : Nat) : Nat → Int := fun i => owedI d n i - owesI d i
theorem netsV_vec (d : List (List Int)) (n : Nat) : netsV d n = vec n (netG d n) := rfl
theorem Bk.netG_in {c : List Int} {d : List (List Int)} (B : Bk c d) (p : Nat) (hp : p < c.length) : -36 ≤ netG d c.length p ∧ netG d c.length p ≤ 36 := by
  have h1 := B.owed_bound hp c.length (by omega)
  have h2 := B.owes_bound hp
  have := B.n4
  unfold netG
  omega
/-- What both LeastBooks tell of a book. -/
theorem leastBook_f {c : List Int} {d : List (List Int)} (B : Bk c d) (hi : Ev (fun k => impl_isBook.f k c d) true) (hs : Ev (fun k => spec_NetsOf.f k c d) (netsV d c.length)) :
    ∃ M, Ev (fun k => impl_LeastBook.f k c d) (mat c.length M) ∧ Ev (fun k => spec_LeastBook.f k c d) (mat c.length M) ∧ Done c.length (netG d c.length) M := by
  have n4 := B.n4
  obtain ⟨M, e1, e2, dn⟩ := lb_rows n4 B.netG_in c.length 0 _ _ (by omega) (LB.start (by have := B.nets_sum; exact this))
  refine ⟨M, Ev.congr (fun k => by unfold impl_LeastBook.f; rfl) (Ev.bind hi (evPos rfl (Ev.bind (nets_f B) ?_))), Ev.congr (fun k => by unfold spec_LeastBook.f; rfl) (Ev.bind hs ?_), dn⟩
  · rw [netsV_vec, vec_len]
    exact lbImpl_l0 n4 e1 c.length 0 (by omega)
  · rw [netsV_vec]
    exact lbSpec_l0 n4 e2 c.length 0 (by omega)


theorem mat_row_le (n : Nat) (R : Nat → Nat → Int) (i : Nat) : ((mat n R).getD i []).length ≤ n := by
  by_cases h : i < n
  · rw [mat_get n R i h, vec_len]; omega
  · rw [List.getD_eq_getElem?_getD, List.getElem?_eq_none (by rw [mat_len]; omega)]; simp
theorem FnExactLeastBook (l0 : List Int) (l1 : List (List Int)) (h0 : l0.length ≤ maxLen) (h1 : l1.length ≤ maxLen) (w0 : ∀ x ∈ l0, (Lit.int .i64 x).wf = true) (w1 : ∀ r ∈ l1, r.length ≤ maxLen ∧ ∀ x ∈ r, (Lit.int .i64 x).wf = true) : ∃ k, laws_FnExactLeastBook.ok k l0 l1 := by
  unfold maxLen at h0 h1
  obtain ⟨s, ⟨k1, hs⟩, hsz⟩ := szBook_f l0 l1 h0 h1 (getD_bound fun r hr => by have := (w1 r hr).1; unfold maxLen at this; exact this)
  by_cases hn : s < 0
  · exact ⟨k1, s, hs k1 (Nat.le_refl _), .inl hn⟩
  obtain ⟨a, b, c⟩ := hsz hn
  have hr : ∀ i, (l1.getD i []).length ≤ 9223372036854775807 := fun i => by have := c i; omega
  obtain ⟨k2, tb⟩ := toBook_f l0 l1 a b c
  obtain ⟨k3, eb⟩ := eqBook_f l0 l1 h0 h1 hr
  obtain ⟨m1, ⟨k4, mb⟩, hm1⟩ := markBook_f l0 l1 a b c
  have ib := isBook_f l0 l1 h0 hr
  have sb := specBookOk_f l0 l1 h0 hr
  have sn := specNetsOf_f l0 l1 sb
  obtain ⟨g, sp, im, g1, g2⟩ : ∃ g, Ev (fun k => spec_LeastBook.f k l0 l1) g ∧ Ev (fun k => impl_LeastBook.f k l0 l1) g ∧ g.length ≤ 4 ∧ ∀ i, (g.getD i []).length ≤ 4 := by
    by_cases hb : okB l0 l1 = true
    · have B := Bk.of hb
      have n4 := B.n4
      rw [hb] at ib
      rw [hb, if_pos rfl] at sn
      obtain ⟨M, e1, e2, D⟩ := leastBook_f B ib sn
      exact ⟨_, e2, e1, by rw [mat_len]; exact n4, fun i => Nat.le_trans (mat_row_le _ _ i) n4⟩
    · have hf : okB l0 l1 = false := by simpa using hb
      rw [hf] at ib
      rw [if_neg (by simp [hf])] at sn
      have e1 : Ev (fun k => impl_LeastBook.f k l0 l1) [] := Ev.congr (fun k => by unfold impl_LeastBook.f; rfl) (Ev.bind ib (evNeg (show ¬ (false = true) by decide) (Ev.now _)))
      have e2 : Ev (fun k => spec_LeastBook.f k l0 l1) [] := Ev.congr (fun k => by unfold spec_LeastBook.f; rfl) (Ev.bind sn (Ev.step (f := fun k => spec_LeastBook.l1 k [] [] 0) (fun k => by rw [spec_LeastBook.l0, if_neg (by simp)]) (Ev.step (f := fun _ => some []) (fun k => by rw [spec_LeastBook.l1, if_neg (by simp)]) (Ev.now _))))
      exact ⟨[], e2, e1, by simp, by simp⟩
  have gm := mem_bound g2
  have gt := totSS_le g gm
  obtain ⟨k5, sp⟩ := sp
  obtain ⟨k6, im⟩ := im
  obtain ⟨k7, eq⟩ := eqIntSS_f g (by omega) (fun i => by have := g2 i; omega)
  obtain ⟨k8, mg⟩ := markSS_f g 1 (by omega) (fun r hr => by have := gm r hr; omega) (by omega) (by omega)
  obtain ⟨k9, hg⟩ := heldSS_f g 1 (by omega) (fun r hr => by have := gm r hr; omega) (by omega) (by omega)
  refine ⟨k1 + k2 + k3 + k4 + k5 + k6 + k7 + k8 + k9, s, hs _ (by omega), .inr ⟨hn, tb _ (by omega), eb _ (by omega), m1, 1 + (totSS g : Int), g, seqSS 1 g, mb _ (by omega), hm1, sp _ (by omega), im _ (by omega), eq _ (by omega), mg _ (by omega), hg _ (by omega), by omega⟩⟩

end Go.Proofs.Ytobdgfapjcepkaa.Pure
