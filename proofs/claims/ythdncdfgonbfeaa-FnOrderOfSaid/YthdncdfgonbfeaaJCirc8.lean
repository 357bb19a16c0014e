/- What the plain functions of impl.circles tell of a book: its circles, in order; no condition but that the book is one. -/
import Derived.Test.YthdncdfgonbfeaaJCirc7
namespace Go.Proofs.Ythdncdfgonbfeaa.Circ
set_option linter.unusedVariables false
set_option linter.unusedSimpArgs false
def toI (p : List Nat) : List Int := p.map fun x : Nat => (x : Int)
/-- Who owes whom. -/
def Ed (d : List (List Int)) (i j : Nat) : Bool := decide ((d.getD i []).getD j 0 ≠ 0)
theorem toI_len (p : List Nat) : (toI p).length = p.length := by simp [toI]
theorem toI_get (p : List Nat) (i : Nat) : (toI p).getD i 0 = ((p.getD i 0 : Nat) : Int) := by
 unfold toI
 rw [List.getD_eq_getElem?_getD, List.getD_eq_getElem?_getD, List.getElem?_map]
 cases p[i]? <;> rfl
theorem toI_snoc (p : List Nat) (x : Nat) : toI (p ++ [x]) = toI p ++ [(x : Int)] := by simp [toI]
theorem map_getD (xs : List (List Nat)) (i : Nat) : (xs.map toI).getD i [] = toI (xs.getD i []) := by
 rw [List.getD_eq_getElem?_getD, List.getD_eq_getElem?_getD, List.getElem?_map]
 cases xs[i]? with
 | none => simp [toI]
 | some x => rfl
theorem nodup_le : ∀ (n : Nat) (l : List Nat), l.Nodup → (∀ x ∈ l, x < n) → l.length ≤ n
 | 0, l, _, h => by
  cases l with
  | nil => exact Nat.le_refl _
  | cons x l => exact absurd (h x (by simp)) (by omega)
 | n + 1, l, hd, h => by
  have h1 := nodup_le n (l.erase n) (hd.erase n) (fun x hx => by
   have a := h x (List.mem_of_mem_erase hx)
   have b := (hd.mem_erase_iff.1 hx).1
   omega)
  by_cases hm : n ∈ l
  ·rw [List.length_erase_of_mem hm] at h1; omega
  ·rw [List.erase_of_not_mem hm] at h1; omega
theorem pN_len (E : Nat → Nat → Bool) (n : Nat) : ∀ m p c, c ∈ pN E n m p → c.length ≤ p.length + m
 | 0, p, c, h => by simp [pN] at h
 | m + 1, p, c, h => by
  rw [pN, List.mem_append] at h
  rcases h with h | h
  ·split at h
   ·rw [List.mem_singleton.1 h]; omega
   ·cases h
  ·obtain ⟨j, _, _, hj⟩ := fl_mem _ _ h
   split at hj
   ·have := pN_len E n m _ c hj
    simp at this
    omega
   ·cases hj
/-- A book, as far as circles go. -/
structure Bt (d : List (List Int)) (n : Nat) : Prop where
 n1 : 1 ≤ n
 n4 : n ≤ 4
 hd : d.length = n
 hr : ∀ i, i < n → (d.getD i []).length = n
 hz : ∀ i, i < n → (d.getD i []).getD i 0 = 0
/-- What one bank adds in the program's walk. -/
def addN (d : List (List Int)) (n m : Nat) (p : List Nat) (x : Nat) : List (List Nat) :=
 if (d.getD (p.getD (p.length - 1) 0) []).getD x 0 = 0 then [] else if x < p.getD 0 0 then [] else if x = p.getD 0 0 then [p] else if x ∈ p then [] else pN (Ed d) n m (p ++ [x])
theorem lexI_toI : ∀ a b : List Nat, lexI (toI a) (toI b) = lexB a b
 | [], b => by cases b <;> rfl
 | x :: xs, [] => rfl
 | x :: xs, y :: ys => by
  show (if (x : Int) = (y : Int) then lexI (toI xs) (toI ys) else decide ((x : Int) < (y : Int))) = (if x = y then lexB xs ys else Nat.blt x y)
  rw [lexI_toI xs ys]
  by_cases e : x = y
  ·rw [if_pos e, if_pos (by omega)]
  ·rw [if_neg e, if_neg (by omega)]
   by_cases h : x < y
   ·rw [Nat.blt_eq.mpr h]; exact decide_eq_true (by omega)
   ·rw [decide_eq_false (by omega)]
    cases hb : Nat.blt x y with
    | false => rfl
    | true => exact absurd (Nat.blt_eq.mp hb) h
theorem befI_toI (a b : List Nat) : befI (toI a) (toI b) = befB a b := by
 unfold befI befB
 rw [toI_len, toI_len, lexI_toI]
 by_cases e : a.length = b.length
 ·rw [if_pos e, if_pos e]
 ·rw [if_neg e, if_neg e]
  by_cases h : a.length < b.length
  ·rw [Nat.blt_eq.mpr h]; exact decide_eq_true h
  ·rw [decide_eq_false h]
   cases hb : Nat.blt a.length b.length with
   | false => rfl
   | true => exact absurd (Nat.blt_eq.mp hb) h
theorem swp_toI (xs : List (List Nat)) (i j : Nat) : swp (xs.map toI) i j [] = (swp xs i j []).map toI := by
 unfold swp
 rw [map_getD, map_getD, List.map_set, List.map_set]
theorem sinkI_toI : ∀ j xs, sinkI j (xs.map toI) = (sinkN j xs).map toI
 | 0, xs => rfl
 | j + 1, xs => by
  rw [sinkI, sinkN, map_getD, map_getD, befI_toI, swp_toI]
  split
  ·exact sinkI_toI j _
  ·rfl
theorem sortI_toI : ∀ m k xs, sortI m k (xs.map toI) = (sortN m k xs).map toI
 | 0, k, xs => rfl
 | m + 1, k, xs => by rw [sortI, sortN, sinkI_toI, sortI_toI]
theorem Bt.edz {d : List (List Int)} {n : Nat} (B : Bt d n) : ∀ i, i < n → Ed d i i = false := fun i hi => by
 unfold Ed; rw [B.hz i hi]; rfl
/-- The circles of a book. -/
def circI (d : List (List Int)) (n : Nat) : List (List Int) := (circN (Ed d) n).map toI
theorem sorted_all (d : List (List Int)) (n : Nat) : sortI (((cN (Ed d) n).map toI).length - 1) 1 ((cN (Ed d) n).map toI) = circI d n := by
 rw [sortI_toI, List.length_map]; rfl
end Go.Proofs.Ythdncdfgonbfeaa.Circ
